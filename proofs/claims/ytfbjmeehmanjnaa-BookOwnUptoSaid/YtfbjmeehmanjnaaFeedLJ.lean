/- The Go functions of group Feed compute the pure functions of that group: written by walkgen.py. Condition of each: the pure function yields a result. -/
import Derived.Test.YtfbjmeehmanjnaaRealmLJ
import Derived.Test.YtfbjmeehmanjnaaStreamLJ
import Derived.Test.YtfbjmeehmanjnaaSpoilJ
import Derived.Test.YtfbjmeehmanjnaaFeedFJ
import Derived.Test.YtfbjmeehmanjnaaEqLJ
namespace Go.Proofs.Ytfbjmeehmanjnaa
set_option linter.unusedVariables false
set_option maxRecDepth 100000 in
set_option maxHeartbeats 4000000 in
theorem realm_Feed_l (F : Nat) (p0 : DBook) (p1 : ByteArray) (r : DBook × Int) (hF : realm_Feed F p0 p1 = some r) (w : World) (A1 : Option Addr) (c1 : Nat) (hs1 : SlOk (vw w) eElem A1 c1 p0.run) :
 Calls Try.prog 9 #[.agg (List.toArray ((.slice A1 p0.run.length c1) :: (DA16.cells p0.roles ++ (DA16.cells p0.fed)))), .string p1] w (fun e w' => ∃ p : Option Addr × Nat, e = .returned (.tuple #[.agg (List.toArray ((.slice p.1 r.1.run.length p.2) :: (DA16.cells r.1.roles ++ (DA16.cells r.1.fed)))), .int .i64 r.2]) ∧ True ∧ Gives w w' [row 30 eElem p.1 p.2 r.1.run]) := by
 unfold realm_Feed at hF
 refine T.start (l := [.agg (List.toArray ((.slice A1 p0.run.length c1) :: (DA16.cells p0.roles ++ (DA16.cells p0.fed)))), .string p1]) Try.func9 rfl rfl rfl ?_
 refine T.seq ?_
 refine T.region ?_
 refine T.step (W1.new 25 ((.slice A1 p0.run.length c1) :: (DA16.cells p0.roles ++ (DA16.cells p0.fed))) (fun b => .pointer (some ⟨b, 0, none⟩)) (by kernel_rfl) (fun _ => by kernel_rfl) (fun b1 => ?_))
 refine T.step (W1.new 25 ((.slice none 0 0) :: (DA16.cells (DA16.mk 0 0 0 0 0 0 0 0 0 0 0 0 0 0 0 0) ++ (DA16.cells (DA16.mk 0 0 0 0 0 0 0 0 0 0 0 0 0 0 0 0)))) (fun b => .pointer (some ⟨b, 0, none⟩)) (by kernel_rfl) (fun _ => by kernel_rfl) (fun b2 => ?_))
 refine T.pure (.int .i64 0) (by kernel_rfl) (fun _ => by kernel_rfl) ?_
 refine T.nil ?_
 refine T.seq ?_
 refine T.seq ?_
 refine T.region ?_
 refine T.look (.agg (List.toArray ((.slice A1 p0.run.length c1) :: (DA16.cells p0.roles ++ (DA16.cells p0.fed))))) (by kernel_rfl) (fun w' hh => exec_loadN (cs := ((.slice A1 p0.run.length c1) :: (DA16.cells p0.roles ++ (DA16.cells p0.fed)))) rfl rfl (by kernel_rfl) (by kernel_rfl) (fun j u hj => (hh.box_at (i := 1) (cs := ((.slice A1 p0.run.length c1) :: (DA16.cells p0.roles ++ (DA16.cells p0.fed)))) (by rfl) 0 j).trans (seg_at (n := 33) (by rfl) hj))) ?_
 obtain ⟨r1, hb1, hF⟩ := Option.bind_eq_some_iff.1 hF
 refine T.step (W1.call (vSc eInt) r1 24 #[.agg (List.toArray ((.slice A1 p0.run.length c1) :: (DA16.cells p0.roles ++ (DA16.cells p0.fed))))] (by kernel_rfl) (fun _ => by kernel_rfl) (fun w' hh => realm_Check_l F p0 r1 hb1 w' A1 c1 (SlOk.mono hs1 hh.view)) ?_)
 intro u V1 hV1 hu
 obtain rfl := sureInt _ _ _ hu
 refine T.pure (.int .i64 r1) (by kernel_rfl) (fun _ => by kernel_rfl) ?_
 refine T.nil ?_
 refine T.seq ?_
 refine T.region ?_
 refine T.pure (.int .i64 r1) (by kernel_rfl) (fun _ => by kernel_rfl) ?_
 refine T.pure (.bool (r1 != 0)) (by kernel_rfl) (fun _ => by kernel_rfl) ?_
 refine T.nil ?_
 refine T.cond (r1 != 0) (by kernel_rfl) (by kernel_rfl) (fun hc1 => ?_) (fun hc1 => ?_)
 ·
  rw [hc1, cond_true] at hF
  refine T.seq ?_
  refine T.region ?_
  refine T.pure (.agg (List.toArray ((.slice none 0 0) :: (DA16.cells (DA16.mk 0 0 0 0 0 0 0 0 0 0 0 0 0 0 0 0) ++ (DA16.cells (DA16.mk 0 0 0 0 0 0 0 0 0 0 0 0 0 0 0 0)))))) (by kernel_rfl) (fun _ => by kernel_rfl) ?_
  refine T.pure (.int .i64 r1) (by kernel_rfl) (fun _ => by kernel_rfl) ?_
  refine T.step (W1.store 0 ((.slice none 0 0) :: (DA16.cells (DA16.mk 0 0 0 0 0 0 0 0 0 0 0 0 0 0 0 0) ++ (DA16.cells (DA16.mk 0 0 0 0 0 0 0 0 0 0 0 0 0 0 0 0)))) [box b2 25 ((.slice none 0 0) :: (DA16.cells (DA16.mk 0 0 0 0 0 0 0 0 0 0 0 0 0 0 0 0) ++ (DA16.cells (DA16.mk 0 0 0 0 0 0 0 0 0 0 0 0 0 0 0 0)))), box b1 25 ((.slice A1 p0.run.length c1) :: (DA16.cells p0.roles ++ (DA16.cells p0.fed)))] (by rfl) rfl (by kernel_rfl) (fun w' hw => exec_store (vs := ((.slice none 0 0) :: (DA16.cells (DA16.mk 0 0 0 0 0 0 0 0 0 0 0 0 0 0 0 0) ++ (DA16.cells (DA16.mk 0 0 0 0 0 0 0 0 0 0 0 0 0 0 0 0))))) rfl rfl rfl rfl (by kernel_rfl) (one_of rfl) (Nat.le_of_ble_eq_true (by rfl)) rfl hw) ?_)
  refine T.pure (.int .i64 r1) (by kernel_rfl) (fun _ => by kernel_rfl) ?_
  refine T.nil ?_
  refine T.rownil 30 eElem ?_
  cases hF
  refine T.ret rfl ?_
  first | exact T.ret2 rfl (ResIs.cellN 1 rfl (by rfl) (fun _ => by kernel_rfl) (fun _ => by kernel_rfl)) (ResIs.tmp rfl) fun w' hh => ⟨(none, 0), rfl, trivial, gives_of (hh.sub (.cons_cons _ (.cons _ (.cons _ List.Sublist.slnil)))) ⟨flat_row (fun _ _ _ _ h => h), trivial⟩⟩ | (unfold Exit.then; dsimp only; exact T.ret2 rfl (ResIs.cellN 1 rfl (by rfl) (fun _ => by kernel_rfl) (fun _ => by kernel_rfl)) (ResIs.tmp rfl) fun w' hh => ⟨(none, 0), rfl, trivial, gives_of (hh.sub (.cons_cons _ (.cons _ (.cons _ List.Sublist.slnil)))) ⟨flat_row (fun _ _ _ _ h => h), trivial⟩⟩)
 ·
  rw [hc1, cond_false] at hF
  refine T.skip_code ?_
  refine T.seq ?_
  refine T.region ?_
  refine T.pure (.string p1) (by kernel_rfl) (fun _ => by kernel_rfl) ?_
  obtain ⟨r3, hb2, hF⟩ := Option.bind_eq_some_iff.1 hF
  refine T.step (W1.call (vT2 (vAg estream_Parsed) (vSc eInt)) r3 25 #[.string p1] (by kernel_rfl) (fun _ => by kernel_rfl) (fun w' hh => stream_Parse_l F p1 r3 hb2 w' ) ?_)
  intro u V2 hV2 hu
  obtain ⟨u1, u2, rfl, hu1, hu2⟩ := vT2_elim hu
  obtain ⟨cs1, rfl, hr1⟩ := vagg_elim hu1
  obtain ⟨A2, c2, rfl, hs2⟩ := hr1
  obtain rfl := sureInt _ _ _ hu2
  refine T.pure (.tuple #[.agg #[.int .i64 r3.1.pfs, .int .i64 r3.1.from_, .int .i64 r3.1.to, .slice A2 r3.1.elems.length c2], .int .i64 r3.2]) (by kernel_rfl) (fun _ => by kernel_rfl) ?_
  refine T.pure (.agg #[.int .i64 r3.1.pfs, .int .i64 r3.1.from_, .int .i64 r3.1.to, .slice A2 r3.1.elems.length c2]) (by kernel_rfl) (fun _ => by kernel_rfl) ?_
  refine T.pure (.int .i64 r3.2) (by kernel_rfl) (fun _ => by kernel_rfl) ?_
  refine T.step (W1.new 58 [.int .i64 0, .int .i64 0, .int .i64 0, .slice none 0 0] (fun b => .pointer (some ⟨b, 0, none⟩)) (by kernel_rfl) (fun _ => by kernel_rfl) (fun b3 => ?_))
  refine T.step (W1.store 0 [.int .i64 r3.1.pfs, .int .i64 r3.1.from_, .int .i64 r3.1.to, .slice A2 r3.1.elems.length c2] [box b3 58 [.int .i64 r3.1.pfs, .int .i64 r3.1.from_, .int .i64 r3.1.to, .slice A2 r3.1.elems.length c2], box b2 25 ((.slice none 0 0) :: (DA16.cells (DA16.mk 0 0 0 0 0 0 0 0 0 0 0 0 0 0 0 0) ++ (DA16.cells (DA16.mk 0 0 0 0 0 0 0 0 0 0 0 0 0 0 0 0)))), box b1 25 ((.slice A1 p0.run.length c1) :: (DA16.cells p0.roles ++ (DA16.cells p0.fed)))] (by rfl) rfl (by kernel_rfl) (fun w' hw => exec_store (vs := [.int .i64 r3.1.pfs, .int .i64 r3.1.from_, .int .i64 r3.1.to, .slice A2 r3.1.elems.length c2]) rfl rfl rfl rfl (by kernel_rfl) (one_of rfl) (by simp) rfl hw) ?_)
  refine T.pure (.int .i64 r3.2) (by kernel_rfl) (fun _ => by kernel_rfl) ?_
  refine T.nil ?_
  refine T.seq ?_
  refine T.seq ?_
  refine T.region ?_
  refine T.pure (.int .i64 r3.2) (by kernel_rfl) (fun _ => by kernel_rfl) ?_
  refine T.pure (.bool (r3.2 != 0)) (by kernel_rfl) (fun _ => by kernel_rfl) ?_
  refine T.nil ?_
  refine T.cond (r3.2 != 0) (by kernel_rfl) (by kernel_rfl) (fun hc2 => ?_) (fun hc2 => ?_)
  ·
   rw [hc2, cond_true] at hF
   refine T.seq ?_
   refine T.region ?_
   refine T.pure (.agg (List.toArray ((.slice none 0 0) :: (DA16.cells (DA16.mk 0 0 0 0 0 0 0 0 0 0 0 0 0 0 0 0) ++ (DA16.cells (DA16.mk 0 0 0 0 0 0 0 0 0 0 0 0 0 0 0 0)))))) (by kernel_rfl) (fun _ => by kernel_rfl) ?_
   refine T.pure (.int .i64 r3.2) (by kernel_rfl) (fun _ => by kernel_rfl) ?_
   refine T.step (W1.store 1 ((.slice none 0 0) :: (DA16.cells (DA16.mk 0 0 0 0 0 0 0 0 0 0 0 0 0 0 0 0) ++ (DA16.cells (DA16.mk 0 0 0 0 0 0 0 0 0 0 0 0 0 0 0 0)))) [box b3 58 [.int .i64 r3.1.pfs, .int .i64 r3.1.from_, .int .i64 r3.1.to, .slice A2 r3.1.elems.length c2], box b2 25 ((.slice none 0 0) :: (DA16.cells (DA16.mk 0 0 0 0 0 0 0 0 0 0 0 0 0 0 0 0) ++ (DA16.cells (DA16.mk 0 0 0 0 0 0 0 0 0 0 0 0 0 0 0 0)))), box b1 25 ((.slice A1 p0.run.length c1) :: (DA16.cells p0.roles ++ (DA16.cells p0.fed)))] (by rfl) rfl (by kernel_rfl) (fun w' hw => exec_store (vs := ((.slice none 0 0) :: (DA16.cells (DA16.mk 0 0 0 0 0 0 0 0 0 0 0 0 0 0 0 0) ++ (DA16.cells (DA16.mk 0 0 0 0 0 0 0 0 0 0 0 0 0 0 0 0))))) rfl rfl rfl rfl (by kernel_rfl) (one_of rfl) (Nat.le_of_ble_eq_true (by rfl)) rfl hw) ?_)
   refine T.pure (.int .i64 r3.2) (by kernel_rfl) (fun _ => by kernel_rfl) ?_
   refine T.nil ?_
   refine T.rownil 30 eElem ?_
   cases hF
   refine T.ret rfl ?_
   first | exact T.ret2 rfl (ResIs.cellN 2 rfl (by rfl) (fun _ => by kernel_rfl) (fun _ => by kernel_rfl)) (ResIs.tmp rfl) fun w' hh => ⟨(none, 0), rfl, trivial, gives_of (hh.sub (.cons_cons _ (.cons _ (.cons _ (.cons _ List.Sublist.slnil))))) ⟨flat_row (fun _ _ _ _ h => h), trivial⟩⟩ | (unfold Exit.then; dsimp only; exact T.ret2 rfl (ResIs.cellN 2 rfl (by rfl) (fun _ => by kernel_rfl) (fun _ => by kernel_rfl)) (ResIs.tmp rfl) fun w' hh => ⟨(none, 0), rfl, trivial, gives_of (hh.sub (.cons_cons _ (.cons _ (.cons _ (.cons _ List.Sublist.slnil))))) ⟨flat_row (fun _ _ _ _ h => h), trivial⟩⟩)
  ·
   rw [hc2, cond_false] at hF
   refine T.skip_code ?_
   refine T.seq ?_
   refine T.seq ?_
   refine T.region ?_
   refine T.pure (.pointer (some ⟨b3, 0, none⟩)) (by kernel_rfl) (fun _ => by kernel_rfl) ?_
   refine T.look (.int .i64 r3.1.pfs) (by kernel_rfl) (fun w' hh => exec_load1 rfl rfl (by kernel_rfl) (hh.cellBox (i := 0) (by rfl) 0)) ?_
   refine T.pure (.pointer (some ⟨b1, 1, none⟩)) (by kernel_rfl) (fun _ => by kernel_rfl) ?_
   obtain ⟨e1, hb3, hF⟩ := Option.bind_eq_some_iff.1 hF
   obtain ⟨hi1, hi2, hi3⟩ := idx_some hb3
   refine T.look (.pointer (some ((⟨b1, 1, none⟩ : Addr).add (r3.1.pfs.toNat * 1)))) (by kernel_rfl) (fun w' hh => exec_arrAddr (e := 3) rfl rfl rfl (by kernel_rfl) (by kernel_rfl) hi1 hi2) ?_
   refine T.look (.int .i64 e1) (by kernel_rfl) (fun w' hh => exec_load1 rfl rfl (by kernel_rfl) (hh.arr_at (i := 2) (by rfl) 1 p0.roles rfl hi3)) ?_
   refine T.pure (.bool (e1 != 2)) (by kernel_rfl) (fun _ => by kernel_rfl) ?_
   refine T.nil ?_
   refine T.cond (e1 != 2) (by kernel_rfl) (by kernel_rfl) (fun hc3 => ?_) (fun hc3 => ?_)
   ·
    rw [hc3, cond_true] at hF
    refine T.seq ?_
    refine T.region ?_
    refine T.pure (.agg (List.toArray ((.slice none 0 0) :: (DA16.cells (DA16.mk 0 0 0 0 0 0 0 0 0 0 0 0 0 0 0 0) ++ (DA16.cells (DA16.mk 0 0 0 0 0 0 0 0 0 0 0 0 0 0 0 0)))))) (by kernel_rfl) (fun _ => by kernel_rfl) ?_
    refine T.step (W1.store 1 ((.slice none 0 0) :: (DA16.cells (DA16.mk 0 0 0 0 0 0 0 0 0 0 0 0 0 0 0 0) ++ (DA16.cells (DA16.mk 0 0 0 0 0 0 0 0 0 0 0 0 0 0 0 0)))) [box b3 58 [.int .i64 r3.1.pfs, .int .i64 r3.1.from_, .int .i64 r3.1.to, .slice A2 r3.1.elems.length c2], box b2 25 ((.slice none 0 0) :: (DA16.cells (DA16.mk 0 0 0 0 0 0 0 0 0 0 0 0 0 0 0 0) ++ (DA16.cells (DA16.mk 0 0 0 0 0 0 0 0 0 0 0 0 0 0 0 0)))), box b1 25 ((.slice A1 p0.run.length c1) :: (DA16.cells p0.roles ++ (DA16.cells p0.fed)))] (by rfl) rfl (by kernel_rfl) (fun w' hw => exec_store (vs := ((.slice none 0 0) :: (DA16.cells (DA16.mk 0 0 0 0 0 0 0 0 0 0 0 0 0 0 0 0) ++ (DA16.cells (DA16.mk 0 0 0 0 0 0 0 0 0 0 0 0 0 0 0 0))))) rfl rfl rfl rfl (by kernel_rfl) (one_of rfl) (Nat.le_of_ble_eq_true (by rfl)) rfl hw) ?_)
    refine T.pure (.int .i64 10) (by kernel_rfl) (fun _ => by kernel_rfl) ?_
    refine T.nil ?_
    refine T.rownil 30 eElem ?_
    cases hF
    refine T.ret rfl ?_
    first | exact T.ret2 rfl (ResIs.cellN 2 rfl (by rfl) (fun _ => by kernel_rfl) (fun _ => by kernel_rfl)) (ResIs.tmp rfl) fun w' hh => ⟨(none, 0), rfl, trivial, gives_of (hh.sub (.cons_cons _ (.cons _ (.cons _ (.cons _ List.Sublist.slnil))))) ⟨flat_row (fun _ _ _ _ h => h), trivial⟩⟩ | (unfold Exit.then; dsimp only; exact T.ret2 rfl (ResIs.cellN 2 rfl (by rfl) (fun _ => by kernel_rfl) (fun _ => by kernel_rfl)) (ResIs.tmp rfl) fun w' hh => ⟨(none, 0), rfl, trivial, gives_of (hh.sub (.cons_cons _ (.cons _ (.cons _ (.cons _ List.Sublist.slnil))))) ⟨flat_row (fun _ _ _ _ h => h), trivial⟩⟩)
   ·
    rw [hc3, cond_false] at hF
    refine T.skip_code ?_
    refine T.seq ?_
    refine T.seq ?_
    refine T.quiet (by kernel_rfl) (by kernel_rfl) ?_
    refine TQ.pure (.pointer (some ⟨b3, 1, none⟩)) (by kernel_rfl) (fun _ => by kernel_rfl) ?_
    refine TQ.look (.int .i64 r3.1.from_) (by kernel_rfl) (fun w' hh => exec_load1 rfl rfl (by kernel_rfl) (hh.cellBox (i := 0) (by rfl) 1)) ?_
    refine TQ.pure (.pointer (some ⟨b3, 0, none⟩)) (by kernel_rfl) (fun _ => by kernel_rfl) ?_
    refine TQ.look (.int .i64 r3.1.pfs) (by kernel_rfl) (fun w' hh => exec_load1 rfl rfl (by kernel_rfl) (hh.cellBox (i := 0) (by rfl) 0)) ?_
    refine TQ.pure (.pointer (some ⟨b1, 17, none⟩)) (by kernel_rfl) (fun _ => by kernel_rfl) ?_
    obtain ⟨e2, hb4, hF⟩ := Option.bind_eq_some_iff.1 hF
    obtain ⟨hi4, hi5, hi6⟩ := idx_some hb4
    refine TQ.look (.pointer (some ((⟨b1, 17, none⟩ : Addr).add (r3.1.pfs.toNat * 1)))) (by kernel_rfl) (fun w' hh => exec_arrAddr (e := 3) rfl rfl rfl (by kernel_rfl) (by kernel_rfl) hi4 hi5) ?_
    refine TQ.look (.int .i64 e2) (by kernel_rfl) (fun w' hh => exec_load1 rfl rfl (by kernel_rfl) (hh.arr_at (i := 2) (by rfl) 17 p0.fed rfl hi6)) ?_
    refine TQ.pure (.bool (r3.1.from_ != e2)) (by kernel_rfl) (fun _ => by kernel_rfl) ?_
    refine TQ.nil ?_
    refine T.cond (r3.1.from_ != e2) (by kernel_rfl) (by kernel_rfl) (fun hc4 => ?_) (fun hc4 => ?_)
    ·
     rw [hc4, cond_true] at hF
     refine T.seq ?_
     refine T.region ?_
     refine T.pure (.agg (List.toArray ((.slice none 0 0) :: (DA16.cells (DA16.mk 0 0 0 0 0 0 0 0 0 0 0 0 0 0 0 0) ++ (DA16.cells (DA16.mk 0 0 0 0 0 0 0 0 0 0 0 0 0 0 0 0)))))) (by kernel_rfl) (fun _ => by kernel_rfl) ?_
     refine T.step (W1.store 1 ((.slice none 0 0) :: (DA16.cells (DA16.mk 0 0 0 0 0 0 0 0 0 0 0 0 0 0 0 0) ++ (DA16.cells (DA16.mk 0 0 0 0 0 0 0 0 0 0 0 0 0 0 0 0)))) [box b3 58 [.int .i64 r3.1.pfs, .int .i64 r3.1.from_, .int .i64 r3.1.to, .slice A2 r3.1.elems.length c2], box b2 25 ((.slice none 0 0) :: (DA16.cells (DA16.mk 0 0 0 0 0 0 0 0 0 0 0 0 0 0 0 0) ++ (DA16.cells (DA16.mk 0 0 0 0 0 0 0 0 0 0 0 0 0 0 0 0)))), box b1 25 ((.slice A1 p0.run.length c1) :: (DA16.cells p0.roles ++ (DA16.cells p0.fed)))] (by rfl) rfl (by kernel_rfl) (fun w' hw => exec_store (vs := ((.slice none 0 0) :: (DA16.cells (DA16.mk 0 0 0 0 0 0 0 0 0 0 0 0 0 0 0 0) ++ (DA16.cells (DA16.mk 0 0 0 0 0 0 0 0 0 0 0 0 0 0 0 0))))) rfl rfl rfl rfl (by kernel_rfl) (one_of rfl) (Nat.le_of_ble_eq_true (by rfl)) rfl hw) ?_)
     refine T.pure (.int .i64 9) (by kernel_rfl) (fun _ => by kernel_rfl) ?_
     refine T.nil ?_
     refine T.rownil 30 eElem ?_
     cases hF
     refine T.ret rfl ?_
     first | exact T.ret2 rfl (ResIs.cellN 2 rfl (by rfl) (fun _ => by kernel_rfl) (fun _ => by kernel_rfl)) (ResIs.tmp rfl) fun w' hh => ⟨(none, 0), rfl, trivial, gives_of (hh.sub (.cons_cons _ (.cons _ (.cons _ (.cons _ List.Sublist.slnil))))) ⟨flat_row (fun _ _ _ _ h => h), trivial⟩⟩ | (unfold Exit.then; dsimp only; exact T.ret2 rfl (ResIs.cellN 2 rfl (by rfl) (fun _ => by kernel_rfl) (fun _ => by kernel_rfl)) (ResIs.tmp rfl) fun w' hh => ⟨(none, 0), rfl, trivial, gives_of (hh.sub (.cons_cons _ (.cons _ (.cons _ (.cons _ List.Sublist.slnil))))) ⟨flat_row (fun _ _ _ _ h => h), trivial⟩⟩)
    ·
     rw [hc4, cond_false] at hF
     refine T.skip_code ?_
     refine T.seq ?_
     refine T.region ?_
     refine T.pure (.pointer (some ⟨b1, 0, none⟩)) (by kernel_rfl) (fun _ => by kernel_rfl) ?_
     refine T.look (.slice A1 p0.run.length c1) (by kernel_rfl) (fun w' hh => exec_load1 rfl rfl (by kernel_rfl) (hh.cellBox (i := 2) (by rfl) 0)) ?_
     refine T.pure (.string p1) (by kernel_rfl) (fun _ => by kernel_rfl) ?_
     obtain ⟨r7, hb5, hF⟩ := Option.bind_eq_some_iff.1 hF
     refine T.step (W1.callG 26 #[.slice A1 p0.run.length c1, .string p1] (fun p : Option Addr × Nat => .tuple #[.slice p.1 r7.1.length p.2, .int .i64 r7.2]) (fun p => [row 30 eElem p.1 p.2 r7.1]) (fun _ => True) (by kernel_rfl) (fun _ => by kernel_rfl) (fun w' hh => stream_Feed_l F p0.run p1 r7 hb5 w' A1 c1 (SlOk.mono (SlOk.mono hs1 (View.le_trans hV1 hV2)) hh.view)) ?_)
     rintro ⟨A3, c3⟩ _
     refine T.reH (H' := [row 30 eElem A3 c3 r7.1, box b3 58 [.int .i64 r3.1.pfs, .int .i64 r3.1.from_, .int .i64 r3.1.to, .slice A2 r3.1.elems.length c2], box b2 25 ((.slice none 0 0) :: (DA16.cells (DA16.mk 0 0 0 0 0 0 0 0 0 0 0 0 0 0 0 0) ++ (DA16.cells (DA16.mk 0 0 0 0 0 0 0 0 0 0 0 0 0 0 0 0)))), box b1 25 ((.slice A1 p0.run.length c1) :: (DA16.cells p0.roles ++ (DA16.cells p0.fed)))]) (by rfl) ?_
     refine T.pure (.tuple #[.slice A3 r7.1.length c3, .int .i64 r7.2]) (by kernel_rfl) (fun _ => by kernel_rfl) ?_
     refine T.pure (.slice A3 r7.1.length c3) (by kernel_rfl) (fun _ => by kernel_rfl) ?_
     refine T.pure (.int .i64 r7.2) (by kernel_rfl) (fun _ => by kernel_rfl) ?_
     refine T.pure (.slice A3 r7.1.length c3) (by kernel_rfl) (fun _ => by kernel_rfl) ?_
     refine T.pure (.int .i64 r7.2) (by kernel_rfl) (fun _ => by kernel_rfl) ?_
     refine T.nil ?_
     refine T.seq ?_
     refine T.seq ?_
     refine T.region ?_
     refine T.pure (.int .i64 r7.2) (by kernel_rfl) (fun _ => by kernel_rfl) ?_
     refine T.pure (.bool (r7.2 != 0)) (by kernel_rfl) (fun _ => by kernel_rfl) ?_
     refine T.nil ?_
     refine T.cond (r7.2 != 0) (by kernel_rfl) (by kernel_rfl) (fun hc5 => ?_) (fun hc5 => ?_)
     ·
      rw [hc5, cond_true] at hF
      refine T.seq ?_
      refine T.region ?_
      refine T.pure (.agg (List.toArray ((.slice none 0 0) :: (DA16.cells (DA16.mk 0 0 0 0 0 0 0 0 0 0 0 0 0 0 0 0) ++ (DA16.cells (DA16.mk 0 0 0 0 0 0 0 0 0 0 0 0 0 0 0 0)))))) (by kernel_rfl) (fun _ => by kernel_rfl) ?_
      refine T.pure (.int .i64 r7.2) (by kernel_rfl) (fun _ => by kernel_rfl) ?_
      refine T.step (W1.store 2 ((.slice none 0 0) :: (DA16.cells (DA16.mk 0 0 0 0 0 0 0 0 0 0 0 0 0 0 0 0) ++ (DA16.cells (DA16.mk 0 0 0 0 0 0 0 0 0 0 0 0 0 0 0 0)))) [row 30 eElem A3 c3 r7.1, box b3 58 [.int .i64 r3.1.pfs, .int .i64 r3.1.from_, .int .i64 r3.1.to, .slice A2 r3.1.elems.length c2], box b2 25 ((.slice none 0 0) :: (DA16.cells (DA16.mk 0 0 0 0 0 0 0 0 0 0 0 0 0 0 0 0) ++ (DA16.cells (DA16.mk 0 0 0 0 0 0 0 0 0 0 0 0 0 0 0 0)))), box b1 25 ((.slice A1 p0.run.length c1) :: (DA16.cells p0.roles ++ (DA16.cells p0.fed)))] (by rfl) rfl (by kernel_rfl) (fun w' hw => exec_store (vs := ((.slice none 0 0) :: (DA16.cells (DA16.mk 0 0 0 0 0 0 0 0 0 0 0 0 0 0 0 0) ++ (DA16.cells (DA16.mk 0 0 0 0 0 0 0 0 0 0 0 0 0 0 0 0))))) rfl rfl rfl rfl (by kernel_rfl) (one_of rfl) (Nat.le_of_ble_eq_true (by rfl)) rfl hw) ?_)
      refine T.pure (.int .i64 r7.2) (by kernel_rfl) (fun _ => by kernel_rfl) ?_
      refine T.nil ?_
      refine T.rownil 30 eElem ?_
      cases hF
      refine T.ret rfl ?_
      first | exact T.ret2 rfl (ResIs.cellN 3 rfl (by rfl) (fun _ => by kernel_rfl) (fun _ => by kernel_rfl)) (ResIs.tmp rfl) fun w' hh => ⟨(none, 0), rfl, trivial, gives_of (hh.sub (.cons_cons _ (.cons _ (.cons _ (.cons _ (.cons _ List.Sublist.slnil)))))) ⟨flat_row (fun _ _ _ _ h => h), trivial⟩⟩ | (unfold Exit.then; dsimp only; exact T.ret2 rfl (ResIs.cellN 3 rfl (by rfl) (fun _ => by kernel_rfl) (fun _ => by kernel_rfl)) (ResIs.tmp rfl) fun w' hh => ⟨(none, 0), rfl, trivial, gives_of (hh.sub (.cons_cons _ (.cons _ (.cons _ (.cons _ (.cons _ List.Sublist.slnil)))))) ⟨flat_row (fun _ _ _ _ h => h), trivial⟩⟩)
     ·
      rw [hc5, cond_false] at hF
      refine T.skip_code ?_
      refine T.seq ?_
      refine T.region ?_
      refine T.pure (.slice A3 r7.1.length c3) (by kernel_rfl) (fun _ => by kernel_rfl) ?_
      refine T.pure (.pointer (some ⟨b1, 0, none⟩)) (by kernel_rfl) (fun _ => by kernel_rfl) ?_
      refine T.step (W1.store 3 ((.slice A3 r7.1.length c3) :: (DA16.cells p0.roles ++ (DA16.cells p0.fed))) [row 30 eElem A3 c3 r7.1, box b3 58 [.int .i64 r3.1.pfs, .int .i64 r3.1.from_, .int .i64 r3.1.to, .slice A2 r3.1.elems.length c2], box b2 25 ((.slice none 0 0) :: (DA16.cells (DA16.mk 0 0 0 0 0 0 0 0 0 0 0 0 0 0 0 0) ++ (DA16.cells (DA16.mk 0 0 0 0 0 0 0 0 0 0 0 0 0 0 0 0)))), box b1 25 ((.slice A3 r7.1.length c3) :: (DA16.cells p0.roles ++ (DA16.cells p0.fed)))] (by rfl) rfl (by kernel_rfl) (fun w' hw => exec_store (vs := [.slice A3 r7.1.length c3]) rfl rfl rfl rfl (by kernel_rfl) (one_of rfl) (Nat.le_of_ble_eq_true (by rfl)) rfl hw) ?_)
      refine T.nil ?_
      refine T.seq ?_
      refine T.region ?_
      refine T.pure (.pointer (some ⟨b3, 0, none⟩)) (by kernel_rfl) (fun _ => by kernel_rfl) ?_
      refine T.look (.int .i64 r3.1.pfs) (by kernel_rfl) (fun w' hh => exec_load1 rfl rfl (by kernel_rfl) (hh.cellBox (i := 1) (by rfl) 0)) ?_
      refine T.pure (.pointer (some ⟨b3, 2, none⟩)) (by kernel_rfl) (fun _ => by kernel_rfl) ?_
      refine T.look (.int .i64 r3.1.to) (by kernel_rfl) (fun w' hh => exec_load1 rfl rfl (by kernel_rfl) (hh.cellBox (i := 1) (by rfl) 2)) ?_
      refine T.pure (.pointer (some ⟨b1, 17, none⟩)) (by kernel_rfl) (fun _ => by kernel_rfl) ?_
      obtain ⟨e3, hb6, hF⟩ := Option.bind_eq_some_iff.1 hF
      obtain ⟨hi7, hi8, hi9⟩ := idx_some hb6
      refine T.look (.pointer (some ((⟨b1, 17, none⟩ : Addr).add (r3.1.pfs.toNat * 1)))) (by kernel_rfl) (fun w' hh => exec_arrAddr (e := 3) rfl rfl rfl (by kernel_rfl) (by kernel_rfl) hi7 hi8) ?_
      refine T.step (W1.store 3 ((.slice A3 r7.1.length c3) :: (DA16.cells p0.roles ++ (DA16.cells (DA16.set p0.fed r3.1.pfs.toNat r3.1.to)))) [row 30 eElem A3 c3 r7.1, box b3 58 [.int .i64 r3.1.pfs, .int .i64 r3.1.from_, .int .i64 r3.1.to, .slice A2 r3.1.elems.length c2], box b2 25 ((.slice none 0 0) :: (DA16.cells (DA16.mk 0 0 0 0 0 0 0 0 0 0 0 0 0 0 0 0) ++ (DA16.cells (DA16.mk 0 0 0 0 0 0 0 0 0 0 0 0 0 0 0 0)))), box b1 25 ((.slice A3 r7.1.length c3) :: (DA16.cells p0.roles ++ (DA16.cells (DA16.set p0.fed r3.1.pfs.toNat r3.1.to))))] (by rfl) rfl (by kernel_rfl) (fun w' hw => exec_storeArr (off := 17) p0.fed rfl rfl rfl (by kernel_rfl) (by have := hi8; have e16 : p0.fed.list.length = 16 := rfl; omega) rfl rfl (Nat.le_of_ble_eq_true (by rfl)) hw) ?_)
      refine T.nil ?_
      refine T.seq ?_
      refine T.region ?_
      refine T.look (.agg (List.toArray ((.slice A3 r7.1.length c3) :: (DA16.cells p0.roles ++ (DA16.cells (DA16.set p0.fed r3.1.pfs.toNat r3.1.to)))))) (by kernel_rfl) (fun w' hh => exec_loadN (cs := ((.slice A3 r7.1.length c3) :: (DA16.cells p0.roles ++ (DA16.cells (DA16.set p0.fed r3.1.pfs.toNat r3.1.to))))) rfl rfl (by kernel_rfl) (by kernel_rfl) (fun j u hj => (hh.box_at (i := 3) (cs := ((.slice A3 r7.1.length c3) :: (DA16.cells p0.roles ++ (DA16.cells (DA16.set p0.fed r3.1.pfs.toNat r3.1.to))))) (by rfl) 0 j).trans (seg_at (n := 33) (by rfl) hj))) ?_
      refine T.step (W1.store 2 ((.slice A3 r7.1.length c3) :: (DA16.cells p0.roles ++ (DA16.cells (DA16.set p0.fed r3.1.pfs.toNat r3.1.to)))) [row 30 eElem A3 c3 r7.1, box b3 58 [.int .i64 r3.1.pfs, .int .i64 r3.1.from_, .int .i64 r3.1.to, .slice A2 r3.1.elems.length c2], box b2 25 ((.slice A3 r7.1.length c3) :: (DA16.cells p0.roles ++ (DA16.cells (DA16.set p0.fed r3.1.pfs.toNat r3.1.to)))), box b1 25 ((.slice A3 r7.1.length c3) :: (DA16.cells p0.roles ++ (DA16.cells (DA16.set p0.fed r3.1.pfs.toNat r3.1.to))))] (by rfl) rfl (by kernel_rfl) (fun w' hw => exec_store (vs := ((.slice A3 r7.1.length c3) :: (DA16.cells p0.roles ++ (DA16.cells (DA16.set p0.fed r3.1.pfs.toNat r3.1.to))))) rfl rfl rfl rfl (by kernel_rfl) (one_of rfl) (Nat.le_of_ble_eq_true (by rfl)) rfl hw) ?_)
      refine T.pure (.int .i64 0) (by kernel_rfl) (fun _ => by kernel_rfl) ?_
      refine T.nil ?_
      cases hF
      refine T.ret rfl ?_
      first | exact T.ret2 rfl (ResIs.cellN 2 rfl (by rfl) (fun _ => by kernel_rfl) (fun _ => by kernel_rfl)) (ResIs.tmp rfl) fun w' hh => ⟨(A3, c3), rfl, trivial, gives_of (hh.sub (.cons_cons _ (.cons _ (.cons _ (.cons _ List.Sublist.slnil))))) ⟨flat_row (fun _ _ _ _ h => h), trivial⟩⟩ | (unfold Exit.then; dsimp only; exact T.ret2 rfl (ResIs.cellN 2 rfl (by rfl) (fun _ => by kernel_rfl) (fun _ => by kernel_rfl)) (ResIs.tmp rfl) fun w' hh => ⟨(A3, c3), rfl, trivial, gives_of (hh.sub (.cons_cons _ (.cons _ (.cons _ (.cons _ List.Sublist.slnil))))) ⟨flat_row (fun _ _ _ _ h => h), trivial⟩⟩)
end Go.Proofs.Ytfbjmeehmanjnaa
