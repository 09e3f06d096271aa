/- The Go functions of group Feed compute the pure functions of that group: written by walkgen.py. Condition of each: the pure function yields a result. -/
import Derived.Test.YtdggcklddjndmaaRealmLJ
import Derived.Test.YtdggcklddjndmaaStreamLJ
import Derived.Test.YtdggcklddjndmaaFeedFJ
import Derived.Test.YtdggcklddjndmaaEqLJ
namespace Go.Proofs.Ytdggcklddjndmaa
set_option linter.unusedVariables false
set_option maxRecDepth 100000 in
set_option maxHeartbeats 4000000 in
theorem realm_Feed_l (F : Nat) (p0 : DBook) (p1 : ByteArray) (r : DBook × Int) (hF : realm_Feed F p0 p1 = some r) (w : World) (A1 : Option Addr) (c1 : Nat) (hs1 : SlOk (vw w) eElem A1 c1 p0.run) :
 Calls Try.prog 11 #[.agg (List.toArray ((.slice A1 p0.run.length c1) :: (DA16.cells p0.roles ++ (DA16.cells p0.fed)))), .string p1] w (Post (vT2 (vAg eBook) (vSc eInt)) r w) := by
 unfold realm_Feed at hF
 refine T.start (l := [.agg (List.toArray ((.slice A1 p0.run.length c1) :: (DA16.cells p0.roles ++ (DA16.cells p0.fed)))), .string p1]) Try.func11 rfl rfl rfl ?_
 refine T.seq ?_
 refine T.region ?_
 refine T.step (W1.new 25 ((.slice A1 p0.run.length c1) :: (DA16.cells p0.roles ++ (DA16.cells p0.fed))) (fun b => .pointer (some ⟨b, 0, none⟩)) (by kernel_rfl) (fun _ => by kernel_rfl) (fun b1 => ?_))
 refine T.step (W1.new 25 ((.slice none 0 0) :: (DA16.cells (DA16.mk 0 0 0 0 0 0 0 0 0 0 0 0 0 0 0 0) ++ (DA16.cells (DA16.mk 0 0 0 0 0 0 0 0 0 0 0 0 0 0 0 0)))) (fun b => .pointer (some ⟨b, 0, none⟩)) (by kernel_rfl) (fun _ => by kernel_rfl) (fun b2 => ?_))
 refine T.pure (.int .i64 0) (by kernel_rfl) (fun _ => by kernel_rfl) ?_
 refine T.nil ?_
 refine T.seq ?_
 refine T.seq ?_
 refine T.region ?_
 refine T.look (.agg (List.toArray ((.slice A1 p0.run.length c1) :: (DA16.cells p0.roles ++ (DA16.cells p0.fed))))) (by kernel_rfl) (fun w' hh => exec_loadN (cs := ((.slice A1 p0.run.length c1) :: (DA16.cells p0.roles ++ (DA16.cells p0.fed)))) rfl rfl (by kernel_rfl) (by kernel_rfl) (fun j u hj => (hh.box_at (i := 1) (cs := ((.slice A1 p0.run.length c1) :: (DA16.cells p0.roles ++ (DA16.cells p0.fed)))) (by rfl) 0 j).trans (seg_at (n := 33) (by rfl) hj))) ?_
 obtain ⟨r1, hb1, hF⟩ := Option.bind_eq_some_iff.1 hF
 refine T.step (W1.call (vSc eInt) r1 7 #[.agg (List.toArray ((.slice A1 p0.run.length c1) :: (DA16.cells p0.roles ++ (DA16.cells p0.fed))))] (by kernel_rfl) (fun _ => by kernel_rfl) (fun w' hh => realm_Check_l F p0 r1 hb1 w' A1 c1 (SlOk.mono hs1 hh.view)) ?_)
 intro u V1 hV1 hu
 obtain rfl := sureInt _ _ _ hu
 refine T.pure (.int .i64 r1) (by kernel_rfl) (fun _ => by kernel_rfl) ?_
 refine T.nil ?_
 refine T.seq ?_
 refine T.region ?_
 refine T.pure (.int .i64 r1) (by kernel_rfl) (fun _ => by kernel_rfl) ?_
 refine T.pure (.bool (r1 != 0)) (by kernel_rfl) (fun _ => by kernel_rfl) ?_
 refine T.nil ?_
 refine T.cond (r1 != 0) (by kernel_rfl) (by kernel_rfl) (fun hc1 => ?_) (fun hc1 => ?_)
 ·
  rw [hc1, cond_true] at hF
  refine T.seq ?_
  refine T.region ?_
  refine T.pure (.agg (List.toArray ((.slice none 0 0) :: (DA16.cells (DA16.mk 0 0 0 0 0 0 0 0 0 0 0 0 0 0 0 0) ++ (DA16.cells (DA16.mk 0 0 0 0 0 0 0 0 0 0 0 0 0 0 0 0)))))) (by kernel_rfl) (fun _ => by kernel_rfl) ?_
  refine T.pure (.int .i64 r1) (by kernel_rfl) (fun _ => by kernel_rfl) ?_
  refine T.step (W1.store 0 ((.slice none 0 0) :: (DA16.cells (DA16.mk 0 0 0 0 0 0 0 0 0 0 0 0 0 0 0 0) ++ (DA16.cells (DA16.mk 0 0 0 0 0 0 0 0 0 0 0 0 0 0 0 0)))) [box b2 25 ((.slice none 0 0) :: (DA16.cells (DA16.mk 0 0 0 0 0 0 0 0 0 0 0 0 0 0 0 0) ++ (DA16.cells (DA16.mk 0 0 0 0 0 0 0 0 0 0 0 0 0 0 0 0)))), box b1 25 ((.slice A1 p0.run.length c1) :: (DA16.cells p0.roles ++ (DA16.cells p0.fed)))] (by rfl) rfl (by kernel_rfl) (fun w' hw => exec_store (vs := ((.slice none 0 0) :: (DA16.cells (DA16.mk 0 0 0 0 0 0 0 0 0 0 0 0 0 0 0 0) ++ (DA16.cells (DA16.mk 0 0 0 0 0 0 0 0 0 0 0 0 0 0 0 0))))) rfl rfl rfl rfl (by kernel_rfl) (one_of rfl) (Nat.le_of_ble_eq_true (by rfl)) rfl hw) ?_)
  refine T.pure (.int .i64 r1) (by kernel_rfl) (fun _ => by kernel_rfl) ?_
  refine T.nil ?_
  cases hF
  refine T.ret rfl ?_
  exact T.ret2 rfl (ResIs.cellN 0 rfl (by rfl) (fun _ => by kernel_rfl) (fun _ => by kernel_rfl)) (ResIs.tmp rfl) fun w' hh => ⟨_, rfl, hh.below, (vT2.mk (vAg.mk ⟨_, _, rfl, (SlOk.nil _ _)⟩) (show _ from rfl))⟩
 ·
  rw [hc1, cond_false] at hF
  refine T.skip_code ?_
  refine T.seq ?_
  refine T.region ?_
  refine T.pure (.string p1) (by kernel_rfl) (fun _ => by kernel_rfl) ?_
  obtain ⟨r2, hb2, hF⟩ := Option.bind_eq_some_iff.1 hF
  refine T.step (W1.call (vT2 (vAg estream_Parsed) (vSc eInt)) r2 20 #[.string p1] (by kernel_rfl) (fun _ => by kernel_rfl) (fun w' hh => stream_Parse_l F p1 r2 hb2 w' ) ?_)
  intro u V2 hV2 hu
  obtain ⟨u1, u2, rfl, hu1, hu2⟩ := vT2_elim hu
  obtain ⟨cs1, rfl, hr1⟩ := vagg_elim hu1
  obtain ⟨A2, c2, rfl, hs2⟩ := hr1
  obtain rfl := sureInt _ _ _ hu2
  refine T.pure (.tuple #[.agg #[.int .i64 r2.1.pfs, .int .i64 r2.1.from_, .int .i64 r2.1.to, .slice A2 r2.1.elems.length c2], .int .i64 r2.2]) (by kernel_rfl) (fun _ => by kernel_rfl) ?_
  refine T.pure (.agg #[.int .i64 r2.1.pfs, .int .i64 r2.1.from_, .int .i64 r2.1.to, .slice A2 r2.1.elems.length c2]) (by kernel_rfl) (fun _ => by kernel_rfl) ?_
  refine T.pure (.int .i64 r2.2) (by kernel_rfl) (fun _ => by kernel_rfl) ?_
  refine T.step (W1.new 55 [.int .i64 0, .int .i64 0, .int .i64 0, .slice none 0 0] (fun b => .pointer (some ⟨b, 0, none⟩)) (by kernel_rfl) (fun _ => by kernel_rfl) (fun b3 => ?_))
  refine T.step (W1.store 0 [.int .i64 r2.1.pfs, .int .i64 r2.1.from_, .int .i64 r2.1.to, .slice A2 r2.1.elems.length c2] [box b3 55 [.int .i64 r2.1.pfs, .int .i64 r2.1.from_, .int .i64 r2.1.to, .slice A2 r2.1.elems.length c2], box b2 25 ((.slice none 0 0) :: (DA16.cells (DA16.mk 0 0 0 0 0 0 0 0 0 0 0 0 0 0 0 0) ++ (DA16.cells (DA16.mk 0 0 0 0 0 0 0 0 0 0 0 0 0 0 0 0)))), box b1 25 ((.slice A1 p0.run.length c1) :: (DA16.cells p0.roles ++ (DA16.cells p0.fed)))] (by rfl) rfl (by kernel_rfl) (fun w' hw => exec_store (vs := [.int .i64 r2.1.pfs, .int .i64 r2.1.from_, .int .i64 r2.1.to, .slice A2 r2.1.elems.length c2]) rfl rfl rfl rfl (by kernel_rfl) (one_of rfl) (by simp) rfl hw) ?_)
  refine T.pure (.int .i64 r2.2) (by kernel_rfl) (fun _ => by kernel_rfl) ?_
  refine T.nil ?_
  refine T.seq ?_
  refine T.seq ?_
  refine T.region ?_
  refine T.pure (.int .i64 r2.2) (by kernel_rfl) (fun _ => by kernel_rfl) ?_
  refine T.pure (.bool (r2.2 != 0)) (by kernel_rfl) (fun _ => by kernel_rfl) ?_
  refine T.nil ?_
  refine T.cond (r2.2 != 0) (by kernel_rfl) (by kernel_rfl) (fun hc2 => ?_) (fun hc2 => ?_)
  ·
   rw [hc2, cond_true] at hF
   refine T.seq ?_
   refine T.region ?_
   refine T.pure (.agg (List.toArray ((.slice none 0 0) :: (DA16.cells (DA16.mk 0 0 0 0 0 0 0 0 0 0 0 0 0 0 0 0) ++ (DA16.cells (DA16.mk 0 0 0 0 0 0 0 0 0 0 0 0 0 0 0 0)))))) (by kernel_rfl) (fun _ => by kernel_rfl) ?_
   refine T.pure (.int .i64 r2.2) (by kernel_rfl) (fun _ => by kernel_rfl) ?_
   refine T.step (W1.store 1 ((.slice none 0 0) :: (DA16.cells (DA16.mk 0 0 0 0 0 0 0 0 0 0 0 0 0 0 0 0) ++ (DA16.cells (DA16.mk 0 0 0 0 0 0 0 0 0 0 0 0 0 0 0 0)))) [box b3 55 [.int .i64 r2.1.pfs, .int .i64 r2.1.from_, .int .i64 r2.1.to, .slice A2 r2.1.elems.length c2], box b2 25 ((.slice none 0 0) :: (DA16.cells (DA16.mk 0 0 0 0 0 0 0 0 0 0 0 0 0 0 0 0) ++ (DA16.cells (DA16.mk 0 0 0 0 0 0 0 0 0 0 0 0 0 0 0 0)))), box b1 25 ((.slice A1 p0.run.length c1) :: (DA16.cells p0.roles ++ (DA16.cells p0.fed)))] (by rfl) rfl (by kernel_rfl) (fun w' hw => exec_store (vs := ((.slice none 0 0) :: (DA16.cells (DA16.mk 0 0 0 0 0 0 0 0 0 0 0 0 0 0 0 0) ++ (DA16.cells (DA16.mk 0 0 0 0 0 0 0 0 0 0 0 0 0 0 0 0))))) rfl rfl rfl rfl (by kernel_rfl) (one_of rfl) (Nat.le_of_ble_eq_true (by rfl)) rfl hw) ?_)
   refine T.pure (.int .i64 r2.2) (by kernel_rfl) (fun _ => by kernel_rfl) ?_
   refine T.nil ?_
   cases hF
   refine T.ret rfl ?_
   exact T.ret2 rfl (ResIs.cellN 1 rfl (by rfl) (fun _ => by kernel_rfl) (fun _ => by kernel_rfl)) (ResIs.tmp rfl) fun w' hh => ⟨_, rfl, hh.below, (vT2.mk (vAg.mk ⟨_, _, rfl, (SlOk.nil _ _)⟩) (show _ from rfl))⟩
  ·
   rw [hc2, cond_false] at hF
   refine T.skip_code ?_
   refine T.seq ?_
   refine T.seq ?_
   refine T.region ?_
   refine T.pure (.pointer (some ⟨b3, 0, none⟩)) (by kernel_rfl) (fun _ => by kernel_rfl) ?_
   refine T.look (.int .i64 r2.1.pfs) (by kernel_rfl) (fun w' hh => exec_load1 rfl rfl (by kernel_rfl) (hh.cellBox (i := 0) (by rfl) 0)) ?_
   refine T.pure (.pointer (some ⟨b1, 1, none⟩)) (by kernel_rfl) (fun _ => by kernel_rfl) ?_
   obtain ⟨e1, hb3, hF⟩ := Option.bind_eq_some_iff.1 hF
   obtain ⟨hi1, hi2, hi3⟩ := idx_some hb3
   refine T.look (.pointer (some ((⟨b1, 1, none⟩ : Addr).add (r2.1.pfs.toNat * 1)))) (by kernel_rfl) (fun w' hh => exec_arrAddr (e := 3) rfl rfl rfl (by kernel_rfl) (by kernel_rfl) hi1 hi2) ?_
   refine T.look (.int .i64 e1) (by kernel_rfl) (fun w' hh => exec_load1 rfl rfl (by kernel_rfl) (hh.arr_at (i := 2) (by rfl) 1 p0.roles rfl hi3)) ?_
   refine T.pure (.bool (e1 != 2)) (by kernel_rfl) (fun _ => by kernel_rfl) ?_
   refine T.nil ?_
   refine T.cond (e1 != 2) (by kernel_rfl) (by kernel_rfl) (fun hc3 => ?_) (fun hc3 => ?_)
   ·
    rw [hc3, cond_true] at hF
    refine T.seq ?_
    refine T.region ?_
    refine T.pure (.agg (List.toArray ((.slice none 0 0) :: (DA16.cells (DA16.mk 0 0 0 0 0 0 0 0 0 0 0 0 0 0 0 0) ++ (DA16.cells (DA16.mk 0 0 0 0 0 0 0 0 0 0 0 0 0 0 0 0)))))) (by kernel_rfl) (fun _ => by kernel_rfl) ?_
    refine T.step (W1.store 1 ((.slice none 0 0) :: (DA16.cells (DA16.mk 0 0 0 0 0 0 0 0 0 0 0 0 0 0 0 0) ++ (DA16.cells (DA16.mk 0 0 0 0 0 0 0 0 0 0 0 0 0 0 0 0)))) [box b3 55 [.int .i64 r2.1.pfs, .int .i64 r2.1.from_, .int .i64 r2.1.to, .slice A2 r2.1.elems.length c2], box b2 25 ((.slice none 0 0) :: (DA16.cells (DA16.mk 0 0 0 0 0 0 0 0 0 0 0 0 0 0 0 0) ++ (DA16.cells (DA16.mk 0 0 0 0 0 0 0 0 0 0 0 0 0 0 0 0)))), box b1 25 ((.slice A1 p0.run.length c1) :: (DA16.cells p0.roles ++ (DA16.cells p0.fed)))] (by rfl) rfl (by kernel_rfl) (fun w' hw => exec_store (vs := ((.slice none 0 0) :: (DA16.cells (DA16.mk 0 0 0 0 0 0 0 0 0 0 0 0 0 0 0 0) ++ (DA16.cells (DA16.mk 0 0 0 0 0 0 0 0 0 0 0 0 0 0 0 0))))) rfl rfl rfl rfl (by kernel_rfl) (one_of rfl) (Nat.le_of_ble_eq_true (by rfl)) rfl hw) ?_)
    refine T.pure (.int .i64 10) (by kernel_rfl) (fun _ => by kernel_rfl) ?_
    refine T.nil ?_
    cases hF
    refine T.ret rfl ?_
    exact T.ret2 rfl (ResIs.cellN 1 rfl (by rfl) (fun _ => by kernel_rfl) (fun _ => by kernel_rfl)) (ResIs.tmp rfl) fun w' hh => ⟨_, rfl, hh.below, (vT2.mk (vAg.mk ⟨_, _, rfl, (SlOk.nil _ _)⟩) (show _ from rfl))⟩
   ·
    rw [hc3, cond_false] at hF
    refine T.skip_code ?_
    refine T.seq ?_
    refine T.seq ?_
    refine T.quiet (by kernel_rfl) (by kernel_rfl) ?_
    refine TQ.pure (.pointer (some ⟨b3, 1, none⟩)) (by kernel_rfl) (fun _ => by kernel_rfl) ?_
    refine TQ.look (.int .i64 r2.1.from_) (by kernel_rfl) (fun w' hh => exec_load1 rfl rfl (by kernel_rfl) (hh.cellBox (i := 0) (by rfl) 1)) ?_
    refine TQ.pure (.pointer (some ⟨b3, 0, none⟩)) (by kernel_rfl) (fun _ => by kernel_rfl) ?_
    refine TQ.look (.int .i64 r2.1.pfs) (by kernel_rfl) (fun w' hh => exec_load1 rfl rfl (by kernel_rfl) (hh.cellBox (i := 0) (by rfl) 0)) ?_
    refine TQ.pure (.pointer (some ⟨b1, 17, none⟩)) (by kernel_rfl) (fun _ => by kernel_rfl) ?_
    obtain ⟨e2, hb4, hF⟩ := Option.bind_eq_some_iff.1 hF
    obtain ⟨hi4, hi5, hi6⟩ := idx_some hb4
    refine TQ.look (.pointer (some ((⟨b1, 17, none⟩ : Addr).add (r2.1.pfs.toNat * 1)))) (by kernel_rfl) (fun w' hh => exec_arrAddr (e := 3) rfl rfl rfl (by kernel_rfl) (by kernel_rfl) hi4 hi5) ?_
    refine TQ.look (.int .i64 e2) (by kernel_rfl) (fun w' hh => exec_load1 rfl rfl (by kernel_rfl) (hh.arr_at (i := 2) (by rfl) 17 p0.fed rfl hi6)) ?_
    refine TQ.pure (.bool (r2.1.from_ != e2)) (by kernel_rfl) (fun _ => by kernel_rfl) ?_
    refine TQ.nil ?_
    refine T.cond (r2.1.from_ != e2) (by kernel_rfl) (by kernel_rfl) (fun hc4 => ?_) (fun hc4 => ?_)
    ·
     rw [hc4, cond_true] at hF
     refine T.seq ?_
     refine T.region ?_
     refine T.pure (.agg (List.toArray ((.slice none 0 0) :: (DA16.cells (DA16.mk 0 0 0 0 0 0 0 0 0 0 0 0 0 0 0 0) ++ (DA16.cells (DA16.mk 0 0 0 0 0 0 0 0 0 0 0 0 0 0 0 0)))))) (by kernel_rfl) (fun _ => by kernel_rfl) ?_
     refine T.step (W1.store 1 ((.slice none 0 0) :: (DA16.cells (DA16.mk 0 0 0 0 0 0 0 0 0 0 0 0 0 0 0 0) ++ (DA16.cells (DA16.mk 0 0 0 0 0 0 0 0 0 0 0 0 0 0 0 0)))) [box b3 55 [.int .i64 r2.1.pfs, .int .i64 r2.1.from_, .int .i64 r2.1.to, .slice A2 r2.1.elems.length c2], box b2 25 ((.slice none 0 0) :: (DA16.cells (DA16.mk 0 0 0 0 0 0 0 0 0 0 0 0 0 0 0 0) ++ (DA16.cells (DA16.mk 0 0 0 0 0 0 0 0 0 0 0 0 0 0 0 0)))), box b1 25 ((.slice A1 p0.run.length c1) :: (DA16.cells p0.roles ++ (DA16.cells p0.fed)))] (by rfl) rfl (by kernel_rfl) (fun w' hw => exec_store (vs := ((.slice none 0 0) :: (DA16.cells (DA16.mk 0 0 0 0 0 0 0 0 0 0 0 0 0 0 0 0) ++ (DA16.cells (DA16.mk 0 0 0 0 0 0 0 0 0 0 0 0 0 0 0 0))))) rfl rfl rfl rfl (by kernel_rfl) (one_of rfl) (Nat.le_of_ble_eq_true (by rfl)) rfl hw) ?_)
     refine T.pure (.int .i64 9) (by kernel_rfl) (fun _ => by kernel_rfl) ?_
     refine T.nil ?_
     cases hF
     refine T.ret rfl ?_
     exact T.ret2 rfl (ResIs.cellN 1 rfl (by rfl) (fun _ => by kernel_rfl) (fun _ => by kernel_rfl)) (ResIs.tmp rfl) fun w' hh => ⟨_, rfl, hh.below, (vT2.mk (vAg.mk ⟨_, _, rfl, (SlOk.nil _ _)⟩) (show _ from rfl))⟩
    ·
     rw [hc4, cond_false] at hF
     refine T.skip_code ?_
     refine T.seq ?_
     refine T.region ?_
     refine T.pure (.pointer (some ⟨b1, 0, none⟩)) (by kernel_rfl) (fun _ => by kernel_rfl) ?_
     refine T.look (.slice A1 p0.run.length c1) (by kernel_rfl) (fun w' hh => exec_load1 rfl rfl (by kernel_rfl) (hh.cellBox (i := 2) (by rfl) 0)) ?_
     refine T.pure (.string p1) (by kernel_rfl) (fun _ => by kernel_rfl) ?_
     obtain ⟨r3, hb5, hF⟩ := Option.bind_eq_some_iff.1 hF
     refine T.step (W1.call (vT2 (vSc (eList eElem)) (vSc eInt)) r3 21 #[.slice A1 p0.run.length c1, .string p1] (by kernel_rfl) (fun _ => by kernel_rfl) (fun w' hh => stream_Feed_l F p0.run p1 r3 hb5 w' A1 c1 (SlOk.mono (SlOk.mono hs1 (View.le_trans hV1 hV2)) hh.view)) ?_)
     intro u V3 hV3 hu
     obtain ⟨u3, u4, rfl, hu3, hu4⟩ := vT2_elim hu
     obtain ⟨A3, c3, rfl, hs3⟩ := vlist_elim hu3
     obtain rfl := sureInt _ _ _ hu4
     refine T.pure (.tuple #[.slice A3 r3.1.length c3, .int .i64 r3.2]) (by kernel_rfl) (fun _ => by kernel_rfl) ?_
     refine T.pure (.slice A3 r3.1.length c3) (by kernel_rfl) (fun _ => by kernel_rfl) ?_
     refine T.pure (.int .i64 r3.2) (by kernel_rfl) (fun _ => by kernel_rfl) ?_
     refine T.pure (.slice A3 r3.1.length c3) (by kernel_rfl) (fun _ => by kernel_rfl) ?_
     refine T.pure (.int .i64 r3.2) (by kernel_rfl) (fun _ => by kernel_rfl) ?_
     refine T.nil ?_
     refine T.seq ?_
     refine T.seq ?_
     refine T.region ?_
     refine T.pure (.int .i64 r3.2) (by kernel_rfl) (fun _ => by kernel_rfl) ?_
     refine T.pure (.bool (r3.2 != 0)) (by kernel_rfl) (fun _ => by kernel_rfl) ?_
     refine T.nil ?_
     refine T.cond (r3.2 != 0) (by kernel_rfl) (by kernel_rfl) (fun hc5 => ?_) (fun hc5 => ?_)
     ·
      rw [hc5, cond_true] at hF
      refine T.seq ?_
      refine T.region ?_
      refine T.pure (.agg (List.toArray ((.slice none 0 0) :: (DA16.cells (DA16.mk 0 0 0 0 0 0 0 0 0 0 0 0 0 0 0 0) ++ (DA16.cells (DA16.mk 0 0 0 0 0 0 0 0 0 0 0 0 0 0 0 0)))))) (by kernel_rfl) (fun _ => by kernel_rfl) ?_
      refine T.pure (.int .i64 r3.2) (by kernel_rfl) (fun _ => by kernel_rfl) ?_
      refine T.step (W1.store 1 ((.slice none 0 0) :: (DA16.cells (DA16.mk 0 0 0 0 0 0 0 0 0 0 0 0 0 0 0 0) ++ (DA16.cells (DA16.mk 0 0 0 0 0 0 0 0 0 0 0 0 0 0 0 0)))) [box b3 55 [.int .i64 r2.1.pfs, .int .i64 r2.1.from_, .int .i64 r2.1.to, .slice A2 r2.1.elems.length c2], box b2 25 ((.slice none 0 0) :: (DA16.cells (DA16.mk 0 0 0 0 0 0 0 0 0 0 0 0 0 0 0 0) ++ (DA16.cells (DA16.mk 0 0 0 0 0 0 0 0 0 0 0 0 0 0 0 0)))), box b1 25 ((.slice A1 p0.run.length c1) :: (DA16.cells p0.roles ++ (DA16.cells p0.fed)))] (by rfl) rfl (by kernel_rfl) (fun w' hw => exec_store (vs := ((.slice none 0 0) :: (DA16.cells (DA16.mk 0 0 0 0 0 0 0 0 0 0 0 0 0 0 0 0) ++ (DA16.cells (DA16.mk 0 0 0 0 0 0 0 0 0 0 0 0 0 0 0 0))))) rfl rfl rfl rfl (by kernel_rfl) (one_of rfl) (Nat.le_of_ble_eq_true (by rfl)) rfl hw) ?_)
      refine T.pure (.int .i64 r3.2) (by kernel_rfl) (fun _ => by kernel_rfl) ?_
      refine T.nil ?_
      cases hF
      refine T.ret rfl ?_
      exact T.ret2 rfl (ResIs.cellN 1 rfl (by rfl) (fun _ => by kernel_rfl) (fun _ => by kernel_rfl)) (ResIs.tmp rfl) fun w' hh => ⟨_, rfl, hh.below, (vT2.mk (vAg.mk ⟨_, _, rfl, (SlOk.nil _ _)⟩) (show _ from rfl))⟩
     ·
      rw [hc5, cond_false] at hF
      refine T.skip_code ?_
      refine T.seq ?_
      refine T.region ?_
      refine T.pure (.slice A3 r3.1.length c3) (by kernel_rfl) (fun _ => by kernel_rfl) ?_
      refine T.pure (.pointer (some ⟨b1, 0, none⟩)) (by kernel_rfl) (fun _ => by kernel_rfl) ?_
      refine T.step (W1.store 2 ((.slice A3 r3.1.length c3) :: (DA16.cells p0.roles ++ (DA16.cells p0.fed))) [box b3 55 [.int .i64 r2.1.pfs, .int .i64 r2.1.from_, .int .i64 r2.1.to, .slice A2 r2.1.elems.length c2], box b2 25 ((.slice none 0 0) :: (DA16.cells (DA16.mk 0 0 0 0 0 0 0 0 0 0 0 0 0 0 0 0) ++ (DA16.cells (DA16.mk 0 0 0 0 0 0 0 0 0 0 0 0 0 0 0 0)))), box b1 25 ((.slice A3 r3.1.length c3) :: (DA16.cells p0.roles ++ (DA16.cells p0.fed)))] (by rfl) rfl (by kernel_rfl) (fun w' hw => exec_store (vs := [.slice A3 r3.1.length c3]) rfl rfl rfl rfl (by kernel_rfl) (one_of rfl) (Nat.le_of_ble_eq_true (by rfl)) rfl hw) ?_)
      refine T.nil ?_
      refine T.seq ?_
      refine T.region ?_
      refine T.pure (.pointer (some ⟨b3, 0, none⟩)) (by kernel_rfl) (fun _ => by kernel_rfl) ?_
      refine T.look (.int .i64 r2.1.pfs) (by kernel_rfl) (fun w' hh => exec_load1 rfl rfl (by kernel_rfl) (hh.cellBox (i := 0) (by rfl) 0)) ?_
      refine T.pure (.pointer (some ⟨b3, 2, none⟩)) (by kernel_rfl) (fun _ => by kernel_rfl) ?_
      refine T.look (.int .i64 r2.1.to) (by kernel_rfl) (fun w' hh => exec_load1 rfl rfl (by kernel_rfl) (hh.cellBox (i := 0) (by rfl) 2)) ?_
      refine T.pure (.pointer (some ⟨b1, 17, none⟩)) (by kernel_rfl) (fun _ => by kernel_rfl) ?_
      obtain ⟨e3, hb6, hF⟩ := Option.bind_eq_some_iff.1 hF
      obtain ⟨hi7, hi8, hi9⟩ := idx_some hb6
      refine T.look (.pointer (some ((⟨b1, 17, none⟩ : Addr).add (r2.1.pfs.toNat * 1)))) (by kernel_rfl) (fun w' hh => exec_arrAddr (e := 3) rfl rfl rfl (by kernel_rfl) (by kernel_rfl) hi7 hi8) ?_
      refine T.step (W1.store 2 ((.slice A3 r3.1.length c3) :: (DA16.cells p0.roles ++ (DA16.cells (DA16.set p0.fed r2.1.pfs.toNat r2.1.to)))) [box b3 55 [.int .i64 r2.1.pfs, .int .i64 r2.1.from_, .int .i64 r2.1.to, .slice A2 r2.1.elems.length c2], box b2 25 ((.slice none 0 0) :: (DA16.cells (DA16.mk 0 0 0 0 0 0 0 0 0 0 0 0 0 0 0 0) ++ (DA16.cells (DA16.mk 0 0 0 0 0 0 0 0 0 0 0 0 0 0 0 0)))), box b1 25 ((.slice A3 r3.1.length c3) :: (DA16.cells p0.roles ++ (DA16.cells (DA16.set p0.fed r2.1.pfs.toNat r2.1.to))))] (by rfl) rfl (by kernel_rfl) (fun w' hw => exec_storeArr (off := 17) p0.fed rfl rfl rfl (by kernel_rfl) (by have := hi8; have e16 : p0.fed.list.length = 16 := rfl; omega) rfl rfl (Nat.le_of_ble_eq_true (by rfl)) hw) ?_)
      refine T.nil ?_
      refine T.seq ?_
      refine T.region ?_
      refine T.look (.agg (List.toArray ((.slice A3 r3.1.length c3) :: (DA16.cells p0.roles ++ (DA16.cells (DA16.set p0.fed r2.1.pfs.toNat r2.1.to)))))) (by kernel_rfl) (fun w' hh => exec_loadN (cs := ((.slice A3 r3.1.length c3) :: (DA16.cells p0.roles ++ (DA16.cells (DA16.set p0.fed r2.1.pfs.toNat r2.1.to))))) rfl rfl (by kernel_rfl) (by kernel_rfl) (fun j u hj => (hh.box_at (i := 2) (cs := ((.slice A3 r3.1.length c3) :: (DA16.cells p0.roles ++ (DA16.cells (DA16.set p0.fed r2.1.pfs.toNat r2.1.to))))) (by rfl) 0 j).trans (seg_at (n := 33) (by rfl) hj))) ?_
      refine T.step (W1.store 1 ((.slice A3 r3.1.length c3) :: (DA16.cells p0.roles ++ (DA16.cells (DA16.set p0.fed r2.1.pfs.toNat r2.1.to)))) [box b3 55 [.int .i64 r2.1.pfs, .int .i64 r2.1.from_, .int .i64 r2.1.to, .slice A2 r2.1.elems.length c2], box b2 25 ((.slice A3 r3.1.length c3) :: (DA16.cells p0.roles ++ (DA16.cells (DA16.set p0.fed r2.1.pfs.toNat r2.1.to)))), box b1 25 ((.slice A3 r3.1.length c3) :: (DA16.cells p0.roles ++ (DA16.cells (DA16.set p0.fed r2.1.pfs.toNat r2.1.to))))] (by rfl) rfl (by kernel_rfl) (fun w' hw => exec_store (vs := ((.slice A3 r3.1.length c3) :: (DA16.cells p0.roles ++ (DA16.cells (DA16.set p0.fed r2.1.pfs.toNat r2.1.to))))) rfl rfl rfl rfl (by kernel_rfl) (one_of rfl) (Nat.le_of_ble_eq_true (by rfl)) rfl hw) ?_)
      refine T.pure (.int .i64 0) (by kernel_rfl) (fun _ => by kernel_rfl) ?_
      refine T.nil ?_
      cases hF
      refine T.ret rfl ?_
      exact T.ret2 rfl (ResIs.cellN 1 rfl (by rfl) (fun _ => by kernel_rfl) (fun _ => by kernel_rfl)) (ResIs.tmp rfl) fun w' hh => ⟨_, rfl, hh.below, (vT2.mk (vAg.mk ⟨_, _, rfl, (SlOk.mono hs3 (View.le_trans (made_mono (View.le_refl _)) (made_fresh hh)))⟩) (show _ from rfl))⟩
set_option maxRecDepth 100000 in
set_option maxHeartbeats 4000000 in
theorem annalref_Realm_l (F : Nat) (p0 : (List DElem)) (p1 : Int) (r : ((List DElem)) × ((List DElem))) (hF : annalref_Realm F p0 p1 = some r) (w : World) (A1 : Option Addr) (c1 : Nat) (hs1 : SlOk (vw w) eElem A1 c1 p0) :
 Calls Try.prog 8 #[.slice A1 p0.length c1, .int .i64 p1] w (Post (vT2 (vSc (eList eElem)) (vSc (eList eElem))) r w) := by
 unfold annalref_Realm at hF
 refine T.start (l := [.slice A1 p0.length c1, .int .i64 p1]) Try.func8 rfl rfl rfl ?_
 refine T.seq ?_
 refine T.region ?_
 refine T.pure (.slice none 0 0) (by kernel_rfl) (fun _ => by kernel_rfl) ?_
 refine T.pure (.slice none 0 0) (by kernel_rfl) (fun _ => by kernel_rfl) ?_
 refine T.nil ?_
 refine T.seq ?_
 refine T.seq ?_
 refine T.region ?_
 refine T.pure (.slice A1 p0.length c1) (by kernel_rfl) (fun _ => by kernel_rfl) ?_
 refine T.pure (.int .i64 (p0.length : Int)) (by kernel_rfl) (fun _ => by kernel_rfl) ?_
 refine T.pure (.int .i64 0) (by kernel_rfl) (fun _ => by kernel_rfl) ?_
 refine T.nil ?_
 refine T.rownil 37 eElem ?_
 refine T.rownil 37 eElem ?_
 obtain ⟨q1, hz1, hF⟩ := Option.bind_eq_some_iff.1 hF
 refine T.mid (fun a w' => ∃ (z1 : List DElem) (z2 : List DElem), q1 = (z1, z2) ∧ ∃ (A4 : Option Addr) (c4 : Nat) (A5 : Option Addr) (c5 : Nat), Fr 30 [(4, .slice A5 z2.length c5), (5, .slice A4 z1.length c4)] a ∧ Hp w (vw w) [row 37 eElem A4 c4 z1, row 37 eElem A5 c5 z2] w') ?_ ?_
 ·
  refine T.block ?_
  refine T.iter (fun s1 a w' => ∃ (x1 : List DElem) (x2 : List DElem) (x3 : Int), s1 = (x1, x2, x3) ∧ ∃ (A2 : Option Addr) (c2 : Nat) (A3 : Option Addr) (c3 : Nat), Fr 30 [(1, .int .i64 p1), (4, .slice A3 x2.length c3), (5, .slice A2 x1.length c2), (8, .slice A1 p0.length c1), (9, .int .i64 (p0.length : Int)), (10, .int .i64 x3)] a ∧ Hp w (vw w) [row 37 eElem A2 c2 x1, row 37 eElem A3 c3 x2] w') hz1 ?_ ?_
  ·
   exact fun a w' hf hh => Exists.intro [] (Exists.intro [] (Exists.intro 0 (And.intro rfl (Exists.intro none (Exists.intro 0 (Exists.intro none (Exists.intro 0 (And.intro (((((((Fr.nil hf).pick hf 10 rfl).pick hf 9 rfl).pick hf 8 rfl).pick hf 5 rfl).pick hf 4 rfl).pick hf 1 rfl) (hh.sub (.cons_cons _ (.cons_cons _ List.Sublist.slnil)))))))))))
  ·
   rintro s1 y1 hY1 hr1 a w' ⟨x1, x2, x3, rfl, A2, c2, A3, c3, hf, hh⟩
   refine (?_ : T 30 w (vw w) [row 37 eElem A2 c2 x1, row 37 eElem A3 c3 x2] [(1, .int .i64 p1), (4, .slice A3 x2.length c3), (5, .slice A2 x1.length c2), (8, .slice A1 p0.length c1), (9, .int .i64 (p0.length : Int)), (10, .int .i64 x3)] _) a w' hf hh
   clear hf hh
   try dsimp only at hY1
   refine T.seq ?_
   refine T.region ?_
   refine T.pure (.bool (decide (x3 < (p0.length : Int)))) (by kernel_rfl) (fun _ => by kernel_rfl) ?_
   refine T.nil ?_
   refine T.seq ?_
   refine T.cond (decide (x3 < (p0.length : Int))) (by kernel_rfl) (by kernel_rfl) (fun hc1 => ?_) (fun hc1 => ?_)
   ·
    rw [hc1, cond_true] at hY1
    refine T.skip_code ?_
    obtain ⟨q2, hX1, hY1⟩ := Option.bind_eq_some_iff.1 hY1
    refine T.cut (fun a w' => ∃ (z3 : List DElem) (z4 : List DElem), q2 = (z3, z4) ∧ ∃ (A6 : Option Addr) (c6 : Nat) (A7 : Option Addr) (c7 : Nat), Fr 30 [(1, .int .i64 p1), (4, .slice A7 z4.length c7), (5, .slice A6 z3.length c6), (8, .slice A1 p0.length c1), (9, .int .i64 (p0.length : Int)), (10, .int .i64 x3)] a ∧ Hp w (vw w) [row 37 eElem A6 c6 z3, row 37 eElem A7 c7 z4] w') ?_ ?_
    ·
     refine T.block ?_
     refine T.seq ?_
     refine T.region ?_
     obtain ⟨e1, hb1, hX1⟩ := Option.bind_eq_some_iff.1 hX1
     obtain ⟨hi1, hi2, hi3⟩ := idx_some hb1
     refine T.look (.pointer (some ((sadr A1).add (x3.toNat * 6)))) (by kernel_rfl) (fun w' hh => exec_indexAddr (e := 37) (s := 6) rfl rfl rfl (by kernel_rfl) (by kernel_rfl) hi1 hi2 (hs1.some_ hi3 (by decide))) ?_
     refine T.look (.agg #[.int .i64 e1.key.pfs, .int .i64 e1.key.obj, .int .i64 e1.key.off, .int .i64 e1.made, .int .i64 e1.gone, .string e1.val]) (by kernel_rfl) (fun w' hh => exec_loadN (cs := [.int .i64 e1.key.pfs, .int .i64 e1.key.obj, .int .i64 e1.key.off, .int .i64 e1.made, .int .i64 e1.gone, .string e1.val]) rfl rfl (by kernel_rfl) (by kernel_rfl) (fun j u hj => (hh.cell_view (SlOk.cellF (E := eElem) hs1 hi3 j (fun _ _ _ h => h) hj)))) ?_
     refine T.step (W1.new 37 [.int .i64 0, .int .i64 0, .int .i64 0, .int .i64 0, .int .i64 0, .string (ByteArray.mk #[])] (fun b => .pointer (some ⟨b, 0, none⟩)) (by kernel_rfl) (fun _ => by kernel_rfl) (fun b1 => ?_))
     refine T.step (W1.store 0 [.int .i64 e1.key.pfs, .int .i64 e1.key.obj, .int .i64 e1.key.off, .int .i64 e1.made, .int .i64 e1.gone, .string e1.val] [box b1 37 [.int .i64 e1.key.pfs, .int .i64 e1.key.obj, .int .i64 e1.key.off, .int .i64 e1.made, .int .i64 e1.gone, .string e1.val], row 37 eElem A2 c2 x1, row 37 eElem A3 c3 x2] (by rfl) rfl (by kernel_rfl) (fun w' hw => exec_store (vs := [.int .i64 e1.key.pfs, .int .i64 e1.key.obj, .int .i64 e1.key.off, .int .i64 e1.made, .int .i64 e1.gone, .string e1.val]) rfl rfl rfl rfl (by kernel_rfl) (one_of rfl) (by simp) rfl hw) ?_)
     refine T.nil ?_
     refine T.seq ?_
     refine T.region ?_
     refine T.pure (.pointer (some ⟨b1, 0, none⟩)) (by kernel_rfl) (fun _ => by kernel_rfl) ?_
     refine T.pure (.pointer (some ⟨b1, 0, none⟩)) (by kernel_rfl) (fun _ => by kernel_rfl) ?_
     refine T.look (.int .i64 e1.key.pfs) (by kernel_rfl) (fun w' hh => exec_load1 rfl rfl (by kernel_rfl) (hh.cellBox (i := 0) (by rfl) 0)) ?_
     refine T.pure (.int .i64 p1) (by kernel_rfl) (fun _ => by kernel_rfl) ?_
     refine T.pure (.bool (e1.key.pfs == p1)) (by kernel_rfl) (fun _ => by kernel_rfl) ?_
     refine T.nil ?_
     refine T.cond (e1.key.pfs == p1) (by kernel_rfl) (by kernel_rfl) (fun hc2 => ?_) (fun hc2 => ?_)
     ·
      rw [hc2, cond_true] at hX1
      refine T.region ?_
      refine T.pure (.slice A3 x2.length c3) (by kernel_rfl) (fun _ => by kernel_rfl) ?_
      refine T.look (.agg #[.int .i64 e1.key.pfs, .int .i64 e1.key.obj, .int .i64 e1.key.off, .int .i64 e1.made, .int .i64 e1.gone, .string e1.val]) (by kernel_rfl) (fun w' hh => exec_loadN (cs := [.int .i64 e1.key.pfs, .int .i64 e1.key.obj, .int .i64 e1.key.off, .int .i64 e1.made, .int .i64 e1.gone, .string e1.val]) rfl rfl (by kernel_rfl) (by kernel_rfl) (fun j u hj => (hh.box_at (i := 0) (cs := [.int .i64 e1.key.pfs, .int .i64 e1.key.obj, .int .i64 e1.key.off, .int .i64 e1.made, .int .i64 e1.gone, .string e1.val]) (by rfl) 0 j).trans (seg_at (n := 6) (by rfl) hj))) ?_
      refine T.step (W1.new 37 [.int .i64 e1.key.pfs, .int .i64 e1.key.obj, .int .i64 e1.key.off, .int .i64 e1.made, .int .i64 e1.gone, .string e1.val] (fun b => .slice (some ⟨b, 0, none⟩) 1 1) (by kernel_rfl) (fun _ => by kernel_rfl) (fun b2 => ?_))
      obtain ⟨y2, hb2, hX1⟩ := Option.bind_eq_some_iff.1 hX1
      obtain ⟨hb2_r, hb2_m, rfl⟩ := grow_some hb2
      obtain ⟨ti, hti, hz1, hz2, hz3⟩ := info_parts (P := Try.prog) (e := 37) (z := .agg #[.int .i64 0, .int .i64 0, .int .i64 0, .int .i64 0, .int .i64 0, .string (ByteArray.mk #[])]) (size := 6) (bytes := 56) (by kernel_rfl)
      refine T.step (W1.append (E := eElem) (l := x2) (m := [e1]) 3 _ _ 56 ti _ (by rfl) (by kernel_rfl) rfl (by kernel_rfl) hti hz1 hz2 hz3 rfl (by decide) rfl rfl (fun w' hh => (SlOk.srcF (slok_lit (E := eElem) (f := DElem.cells) [e1] (fun _ _ => rfl) (Nat.le_of_ble_eq_true (by rfl)) (fun j => hh.cellBox (i := 0) (by rfl) j)) (fun _ _ _ _ h => h))) hb2_r hb2_m (fun A8 c8 => ?_))
      refine T.pure (.slice A8 ((x2 ++ [e1]).length) c8) (by kernel_rfl) (fun _ => by kernel_rfl) ?_
      refine T.nil ?_
      cases hX1
      exact fun a w' hf hh => Exists.intro x1 (Exists.intro (x2 ++ [e1]) (And.intro rfl (Exists.intro A2 (Exists.intro c2 (Exists.intro A8 (Exists.intro c8 (And.intro (((((((Fr.nil hf).pick hf 10 rfl).pick hf 9 rfl).pick hf 8 rfl).pick hf 5 rfl).pick hf 4 rfl).pick hf 1 rfl) (hh.sub (.cons _ (.cons _ (.cons_cons _ (.cons_cons _ List.Sublist.slnil))))))))))))
     ·
      rw [hc2, cond_false] at hX1
      refine T.region ?_
      refine T.pure (.slice A2 x1.length c2) (by kernel_rfl) (fun _ => by kernel_rfl) ?_
      refine T.look (.agg #[.int .i64 e1.key.pfs, .int .i64 e1.key.obj, .int .i64 e1.key.off, .int .i64 e1.made, .int .i64 e1.gone, .string e1.val]) (by kernel_rfl) (fun w' hh => exec_loadN (cs := [.int .i64 e1.key.pfs, .int .i64 e1.key.obj, .int .i64 e1.key.off, .int .i64 e1.made, .int .i64 e1.gone, .string e1.val]) rfl rfl (by kernel_rfl) (by kernel_rfl) (fun j u hj => (hh.box_at (i := 0) (cs := [.int .i64 e1.key.pfs, .int .i64 e1.key.obj, .int .i64 e1.key.off, .int .i64 e1.made, .int .i64 e1.gone, .string e1.val]) (by rfl) 0 j).trans (seg_at (n := 6) (by rfl) hj))) ?_
      refine T.step (W1.new 37 [.int .i64 e1.key.pfs, .int .i64 e1.key.obj, .int .i64 e1.key.off, .int .i64 e1.made, .int .i64 e1.gone, .string e1.val] (fun b => .slice (some ⟨b, 0, none⟩) 1 1) (by kernel_rfl) (fun _ => by kernel_rfl) (fun b3 => ?_))
      obtain ⟨y3, hb3, hX1⟩ := Option.bind_eq_some_iff.1 hX1
      obtain ⟨hb3_r, hb3_m, rfl⟩ := grow_some hb3
      obtain ⟨ti, hti, hz1, hz2, hz3⟩ := info_parts (P := Try.prog) (e := 37) (z := .agg #[.int .i64 0, .int .i64 0, .int .i64 0, .int .i64 0, .int .i64 0, .string (ByteArray.mk #[])]) (size := 6) (bytes := 56) (by kernel_rfl)
      refine T.step (W1.append (E := eElem) (l := x1) (m := [e1]) 2 _ _ 56 ti _ (by rfl) (by kernel_rfl) rfl (by kernel_rfl) hti hz1 hz2 hz3 rfl (by decide) rfl rfl (fun w' hh => (SlOk.srcF (slok_lit (E := eElem) (f := DElem.cells) [e1] (fun _ _ => rfl) (Nat.le_of_ble_eq_true (by rfl)) (fun j => hh.cellBox (i := 0) (by rfl) j)) (fun _ _ _ _ h => h))) hb3_r hb3_m (fun A9 c9 => ?_))
      refine T.pure (.slice A9 ((x1 ++ [e1]).length) c9) (by kernel_rfl) (fun _ => by kernel_rfl) ?_
      refine T.nil ?_
      cases hX1
      exact fun a w' hf hh => Exists.intro (x1 ++ [e1]) (Exists.intro x2 (And.intro rfl (Exists.intro A9 (Exists.intro c9 (Exists.intro A3 (Exists.intro c3 (And.intro (((((((Fr.nil hf).pick hf 10 rfl).pick hf 9 rfl).pick hf 8 rfl).pick hf 5 rfl).pick hf 4 rfl).pick hf 1 rfl) (hh.sub (.cons _ (.cons _ (.cons_cons _ (.cons_cons _ List.Sublist.slnil))))))))))))
    ·
     rintro a w' ⟨z3, z4, rfl, A6, c6, A7, c7, hf, hh⟩
     try dsimp only at hY1
     refine (?_ : T 30 w (vw w) [row 37 eElem A6 c6 z3, row 37 eElem A7 c7 z4] [(1, .int .i64 p1), (4, .slice A7 z4.length c7), (5, .slice A6 z3.length c6), (8, .slice A1 p0.length c1), (9, .int .i64 (p0.length : Int)), (10, .int .i64 x3)] _) a w' hf hh
     clear hf hh
     refine T.region ?_
     refine T.pure (.int .i64 (IntKind.i64.wrap (x3 + 1))) (by kernel_rfl) (fun _ => by kernel_rfl) ?_
     refine T.pure (.int .i64 (IntKind.i64.wrap (x3 + 1))) (by kernel_rfl) (fun _ => by kernel_rfl) ?_
     refine T.nil ?_
     cases hY1
     exact fun a w' hf hh => Exists.intro (z3, z4, IntKind.i64.wrap (x3 + 1)) (And.intro rfl (Exists.intro z3 (Exists.intro z4 (Exists.intro (IntKind.i64.wrap (x3 + 1)) (And.intro rfl (Exists.intro A6 (Exists.intro c6 (Exists.intro A7 (Exists.intro c7 (And.intro (((((((Fr.nil hf).pick hf 10 rfl).pick hf 9 rfl).pick hf 8 rfl).pick hf 5 rfl).pick hf 4 rfl).pick hf 1 rfl) (hh.sub (.cons_cons _ (.cons_cons _ List.Sublist.slnil)))))))))))))
   ·
    rw [hc1, cond_false] at hY1
    refine T.exit ?_
    cases hY1
    cases (hr1 _ rfl)
    exact fun a w' hf hh => Exists.intro x1 (Exists.intro x2 (And.intro rfl (Exists.intro A2 (Exists.intro c2 (Exists.intro A3 (Exists.intro c3 (And.intro (((Fr.nil hf).pick hf 5 rfl).pick hf 4 rfl) (hh.sub (.cons_cons _ (.cons_cons _ List.Sublist.slnil))))))))))
 ·
  rintro a w' ⟨z1, z2, rfl, A4, c4, A5, c5, hf, hh⟩
  try dsimp only at hF
  refine (?_ : T 30 w (vw w) [row 37 eElem A4 c4 z1, row 37 eElem A5 c5 z2] [(4, .slice A5 z2.length c5), (5, .slice A4 z1.length c4)] _) a w' hf hh
  clear hf hh
  refine T.seq ?_
  refine T.region ?_
  refine T.pure (.slice A5 z2.length c5) (by kernel_rfl) (fun _ => by kernel_rfl) ?_
  refine T.pure (.slice A4 z1.length c4) (by kernel_rfl) (fun _ => by kernel_rfl) ?_
  refine T.pure (.slice A5 z2.length c5) (by kernel_rfl) (fun _ => by kernel_rfl) ?_
  refine T.pure (.slice A4 z1.length c4) (by kernel_rfl) (fun _ => by kernel_rfl) ?_
  refine T.nil ?_
  cases hF
  refine T.ret rfl ?_
  exact T.ret2 rfl (ResIs.tmp rfl) (ResIs.tmp rfl) fun w' hh => ⟨_, rfl, hh.below, (vT2.mk ⟨_, _, rfl, (hh.row_fresh (i := 1) (by rfl) (fun _ h => h))⟩ ⟨_, _, rfl, (hh.row_fresh (i := 0) (by rfl) (fun _ h => h))⟩)⟩
end Go.Proofs.Ytdggcklddjndmaa
