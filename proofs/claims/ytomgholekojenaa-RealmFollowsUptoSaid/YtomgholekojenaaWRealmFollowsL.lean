/- The Go functions of group WRealmFollows compute the pure functions of that group: written by walkgen.py. Condition of each: the pure function yields a result. -/
import Derived.Test.YtomgholekojenaaFeedL
import Derived.Test.YtomgholekojenaaTurnL
import Derived.Test.YtomgholekojenaaEqsL
import Derived.Test.YtomgholekojenaaWRealmFollowsF
import Derived.Test.YtomgholekojenaaEqL
namespace Go.Proofs.Ytomgholekojenaa
set_option linter.unusedVariables false

set_option maxRecDepth 100000 in
set_option maxHeartbeats 4000000 in
theorem annalkeep_RealmFollows_l (F : Nat) (p0 : (List DKey)) (p1 : (List ByteArray)) (p2 : (List Int)) (p3 : DKey) (p4 : ByteArray) (r : Bool) (hF : annalkeep_RealmFollows F p0 p1 p2 p3 p4 = some r) (w : World) (A1 : Option Addr) (c1 : Nat) (hs1 : SlOk (vw w) eKey A1 c1 p0) (A2 : Option Addr) (c2 : Nat) (hs2 : SlOk (vw w) eStr A2 c2 p1) (A3 : Option Addr) (c3 : Nat) (hs3 : SlOk (vw w) eInt A3 c3 p2) :
    Calls Try.prog 10 #[.slice A1 p0.length c1, .slice A2 p1.length c2, .slice A3 p2.length c3, .agg #[.int .i64 p3.pfs, .int .i64 p3.obj, .int .i64 p3.off], .string p4] w (Post (vSc eBool) r w) := by
 unfold annalkeep_RealmFollows at hF
 refine T.start (l := [.slice A1 p0.length c1, .slice A2 p1.length c2, .slice A3 p2.length c3, .agg #[.int .i64 p3.pfs, .int .i64 p3.obj, .int .i64 p3.off], .string p4]) Try.func10 rfl rfl rfl ?_
 refine T.seq ?_
 refine T.region ?_
 refine T.step (W1.new 42 [.int .i64 p3.pfs, .int .i64 p3.obj, .int .i64 p3.off] (fun b => .pointer (some ⟨b, 0, none⟩)) (by kernel_rfl) (fun _ => by kernel_rfl) (fun b1 => ?_))
 refine T.pure (.bool false) (by kernel_rfl) (fun _ => by kernel_rfl) ?_
 refine T.nil ?_
 refine T.seq ?_
 refine T.region ?_
 obtain ⟨r1, hb1, hF⟩ := Option.bind_eq_some_iff.1 hF
 refine T.step (W1.call (vAg eBook) r1 14 #[] (by kernel_rfl) (fun _ => by kernel_rfl) (fun w' hh => annalkeep_book_l  r1 hb1 w' ) ?_)
 intro u V1 hV1 hu
 obtain ⟨cs1, rfl, hr1⟩ := vagg_elim hu
 obtain ⟨A4, c4, rfl, hs4⟩ := hr1
 obtain ⟨r2, hb2, hF⟩ := Option.bind_eq_some_iff.1 hF
 refine T.step (W1.call (vAg eBook) r2 14 #[] (by kernel_rfl) (fun _ => by kernel_rfl) (fun w' hh => annalkeep_book_l  r2 hb2 w' ) ?_)
 intro u V2 hV2 hu
 obtain ⟨cs2, rfl, hr2⟩ := vagg_elim hu
 obtain ⟨A5, c5, rfl, hs5⟩ := hr2
 refine T.step (W1.new 36 ((.slice none 0 0) :: (DA16.cells (DA16.mk 0 0 0 0 0 0 0 0 0 0 0 0 0 0 0 0) ++ (DA16.cells (DA16.mk 0 0 0 0 0 0 0 0 0 0 0 0 0 0 0 0)))) (fun b => .pointer (some ⟨b, 0, none⟩)) (by kernel_rfl) (fun _ => by kernel_rfl) (fun b2 => ?_))
 refine T.step (W1.new 36 ((.slice none 0 0) :: (DA16.cells (DA16.mk 0 0 0 0 0 0 0 0 0 0 0 0 0 0 0 0) ++ (DA16.cells (DA16.mk 0 0 0 0 0 0 0 0 0 0 0 0 0 0 0 0)))) (fun b => .pointer (some ⟨b, 0, none⟩)) (by kernel_rfl) (fun _ => by kernel_rfl) (fun b3 => ?_))
 refine T.step (W1.store 1 ((.slice A4 r1.run.length c4) :: (DA16.cells r1.roles ++ (DA16.cells r1.fed))) [box b3 36 ((.slice none 0 0) :: (DA16.cells (DA16.mk 0 0 0 0 0 0 0 0 0 0 0 0 0 0 0 0) ++ (DA16.cells (DA16.mk 0 0 0 0 0 0 0 0 0 0 0 0 0 0 0 0)))), box b2 36 ((.slice A4 r1.run.length c4) :: (DA16.cells r1.roles ++ (DA16.cells r1.fed))), box b1 42 [.int .i64 p3.pfs, .int .i64 p3.obj, .int .i64 p3.off]] (by rfl) rfl (by kernel_rfl) (fun w' hw => exec_store (vs := ((.slice A4 r1.run.length c4) :: (DA16.cells r1.roles ++ (DA16.cells r1.fed)))) rfl rfl rfl rfl (by kernel_rfl) (one_of rfl) (Nat.le_of_ble_eq_true (by rfl)) rfl hw) ?_)
 refine T.step (W1.store 0 ((.slice A5 r2.run.length c5) :: (DA16.cells r2.roles ++ (DA16.cells r2.fed))) [box b3 36 ((.slice A5 r2.run.length c5) :: (DA16.cells r2.roles ++ (DA16.cells r2.fed))), box b2 36 ((.slice A4 r1.run.length c4) :: (DA16.cells r1.roles ++ (DA16.cells r1.fed))), box b1 42 [.int .i64 p3.pfs, .int .i64 p3.obj, .int .i64 p3.off]] (by rfl) rfl (by kernel_rfl) (fun w' hw => exec_store (vs := ((.slice A5 r2.run.length c5) :: (DA16.cells r2.roles ++ (DA16.cells r2.fed)))) rfl rfl rfl rfl (by kernel_rfl) (one_of rfl) (Nat.le_of_ble_eq_true (by rfl)) rfl hw) ?_)
 refine T.nil ?_
 refine T.seq ?_
 refine T.region ?_
 refine T.pure (.pointer (some ⟨b2, 1, none⟩)) (by kernel_rfl) (fun _ => by kernel_rfl) ?_
 refine T.pure (.pointer (some ⟨b2, 2, none⟩)) (by kernel_rfl) (fun _ => by kernel_rfl) ?_
 refine T.step (W1.store 1 ((.slice A4 r1.run.length c4) :: (DA16.cells (DA16.mk r1.roles.x0 0 r1.roles.x2 r1.roles.x3 r1.roles.x4 r1.roles.x5 r1.roles.x6 r1.roles.x7 r1.roles.x8 r1.roles.x9 r1.roles.x10 r1.roles.x11 r1.roles.x12 r1.roles.x13 r1.roles.x14 r1.roles.x15) ++ (DA16.cells r1.fed))) [box b3 36 ((.slice A5 r2.run.length c5) :: (DA16.cells r2.roles ++ (DA16.cells r2.fed))), box b2 36 ((.slice A4 r1.run.length c4) :: (DA16.cells (DA16.mk r1.roles.x0 0 r1.roles.x2 r1.roles.x3 r1.roles.x4 r1.roles.x5 r1.roles.x6 r1.roles.x7 r1.roles.x8 r1.roles.x9 r1.roles.x10 r1.roles.x11 r1.roles.x12 r1.roles.x13 r1.roles.x14 r1.roles.x15) ++ (DA16.cells r1.fed))), box b1 42 [.int .i64 p3.pfs, .int .i64 p3.obj, .int .i64 p3.off]] (by rfl) rfl (by kernel_rfl) (fun w' hw => exec_store (vs := [.int .i64 0]) rfl rfl rfl rfl (by kernel_rfl) (one_of rfl) (Nat.le_of_ble_eq_true (by rfl)) rfl hw) ?_)
 refine T.pure (.pointer (some ⟨b3, 1, none⟩)) (by kernel_rfl) (fun _ => by kernel_rfl) ?_
 refine T.pure (.pointer (some ⟨b3, 1, none⟩)) (by kernel_rfl) (fun _ => by kernel_rfl) ?_
 refine T.step (W1.store 0 ((.slice A5 r2.run.length c5) :: (DA16.cells (DA16.mk 0 r2.roles.x1 r2.roles.x2 r2.roles.x3 r2.roles.x4 r2.roles.x5 r2.roles.x6 r2.roles.x7 r2.roles.x8 r2.roles.x9 r2.roles.x10 r2.roles.x11 r2.roles.x12 r2.roles.x13 r2.roles.x14 r2.roles.x15) ++ (DA16.cells r2.fed))) [box b3 36 ((.slice A5 r2.run.length c5) :: (DA16.cells (DA16.mk 0 r2.roles.x1 r2.roles.x2 r2.roles.x3 r2.roles.x4 r2.roles.x5 r2.roles.x6 r2.roles.x7 r2.roles.x8 r2.roles.x9 r2.roles.x10 r2.roles.x11 r2.roles.x12 r2.roles.x13 r2.roles.x14 r2.roles.x15) ++ (DA16.cells r2.fed))), box b2 36 ((.slice A4 r1.run.length c4) :: (DA16.cells (DA16.mk r1.roles.x0 0 r1.roles.x2 r1.roles.x3 r1.roles.x4 r1.roles.x5 r1.roles.x6 r1.roles.x7 r1.roles.x8 r1.roles.x9 r1.roles.x10 r1.roles.x11 r1.roles.x12 r1.roles.x13 r1.roles.x14 r1.roles.x15) ++ (DA16.cells r1.fed))), box b1 42 [.int .i64 p3.pfs, .int .i64 p3.obj, .int .i64 p3.off]] (by rfl) rfl (by kernel_rfl) (fun w' hw => exec_store (vs := [.int .i64 0]) rfl rfl rfl rfl (by kernel_rfl) (one_of rfl) (Nat.le_of_ble_eq_true (by rfl)) rfl hw) ?_)
 refine T.nil ?_
 refine T.seq ?_
 refine T.region ?_
 refine T.look (.agg (List.toArray ((.slice A4 r1.run.length c4) :: (DA16.cells (DA16.mk r1.roles.x0 0 r1.roles.x2 r1.roles.x3 r1.roles.x4 r1.roles.x5 r1.roles.x6 r1.roles.x7 r1.roles.x8 r1.roles.x9 r1.roles.x10 r1.roles.x11 r1.roles.x12 r1.roles.x13 r1.roles.x14 r1.roles.x15) ++ (DA16.cells r1.fed))))) (by kernel_rfl) (fun w' hh => exec_loadN (cs := ((.slice A4 r1.run.length c4) :: (DA16.cells (DA16.mk r1.roles.x0 0 r1.roles.x2 r1.roles.x3 r1.roles.x4 r1.roles.x5 r1.roles.x6 r1.roles.x7 r1.roles.x8 r1.roles.x9 r1.roles.x10 r1.roles.x11 r1.roles.x12 r1.roles.x13 r1.roles.x14 r1.roles.x15) ++ (DA16.cells r1.fed)))) rfl rfl (by kernel_rfl) (by kernel_rfl) (fun j u hj => (hh.box_at (i := 1) (cs := ((.slice A4 r1.run.length c4) :: (DA16.cells (DA16.mk r1.roles.x0 0 r1.roles.x2 r1.roles.x3 r1.roles.x4 r1.roles.x5 r1.roles.x6 r1.roles.x7 r1.roles.x8 r1.roles.x9 r1.roles.x10 r1.roles.x11 r1.roles.x12 r1.roles.x13 r1.roles.x14 r1.roles.x15) ++ (DA16.cells r1.fed)))) (by rfl) 0 j).trans (seg_at (n := 33) (by rfl) hj))) ?_
 obtain ⟨r3, hb3, hF⟩ := Option.bind_eq_some_iff.1 hF
 refine T.step (W1.call (vT2 (vAg eBook) (vSc eInt)) r3 33 #[.agg (List.toArray ((.slice A4 r1.run.length c4) :: (DA16.cells (DA16.mk r1.roles.x0 0 r1.roles.x2 r1.roles.x3 r1.roles.x4 r1.roles.x5 r1.roles.x6 r1.roles.x7 r1.roles.x8 r1.roles.x9 r1.roles.x10 r1.roles.x11 r1.roles.x12 r1.roles.x13 r1.roles.x14 r1.roles.x15) ++ (DA16.cells r1.fed)))), .int .i64 1, .int .i64 1] (by kernel_rfl) (fun _ => by kernel_rfl) (fun w' hh => realm_Make_l F (DBook.mk r1.run (DA16.mk r1.roles.x0 0 r1.roles.x2 r1.roles.x3 r1.roles.x4 r1.roles.x5 r1.roles.x6 r1.roles.x7 r1.roles.x8 r1.roles.x9 r1.roles.x10 r1.roles.x11 r1.roles.x12 r1.roles.x13 r1.roles.x14 r1.roles.x15) r1.fed) 1 1 r3 hb3 w' A4 c4 (SlOk.mono (SlOk.mono hs4 (View.le_trans (made_le _ _) hV2)) hh.view)) ?_)
 intro u V3 hV3 hu
 obtain ⟨u1, u2, rfl, hu1, hu2⟩ := vT2_elim hu
 obtain ⟨cs3, rfl, hr3⟩ := vagg_elim hu1
 obtain ⟨A6, c6, rfl, hs6⟩ := hr3
 obtain rfl := sureInt _ _ _ hu2
 refine T.pure (.tuple #[.agg (List.toArray ((.slice A6 r3.1.run.length c6) :: (DA16.cells r3.1.roles ++ (DA16.cells r3.1.fed)))), .int .i64 r3.2]) (by kernel_rfl) (fun _ => by kernel_rfl) ?_
 refine T.pure (.agg (List.toArray ((.slice A6 r3.1.run.length c6) :: (DA16.cells r3.1.roles ++ (DA16.cells r3.1.fed))))) (by kernel_rfl) (fun _ => by kernel_rfl) ?_
 refine T.pure (.int .i64 r3.2) (by kernel_rfl) (fun _ => by kernel_rfl) ?_
 refine T.step (W1.store 1 ((.slice A6 r3.1.run.length c6) :: (DA16.cells r3.1.roles ++ (DA16.cells r3.1.fed))) [box b3 36 ((.slice A5 r2.run.length c5) :: (DA16.cells (DA16.mk 0 r2.roles.x1 r2.roles.x2 r2.roles.x3 r2.roles.x4 r2.roles.x5 r2.roles.x6 r2.roles.x7 r2.roles.x8 r2.roles.x9 r2.roles.x10 r2.roles.x11 r2.roles.x12 r2.roles.x13 r2.roles.x14 r2.roles.x15) ++ (DA16.cells r2.fed))), box b2 36 ((.slice A6 r3.1.run.length c6) :: (DA16.cells r3.1.roles ++ (DA16.cells r3.1.fed))), box b1 42 [.int .i64 p3.pfs, .int .i64 p3.obj, .int .i64 p3.off]] (by rfl) rfl (by kernel_rfl) (fun w' hw => exec_store (vs := ((.slice A6 r3.1.run.length c6) :: (DA16.cells r3.1.roles ++ (DA16.cells r3.1.fed)))) rfl rfl rfl rfl (by kernel_rfl) (one_of rfl) (Nat.le_of_ble_eq_true (by rfl)) rfl hw) ?_)
 refine T.pure (.int .i64 r3.2) (by kernel_rfl) (fun _ => by kernel_rfl) ?_
 refine T.nil ?_
 refine T.seq ?_
 refine T.cut (fun a w' => Fr 231 [(0, .slice A1 p0.length c1), (1, .slice A2 p1.length c2), (2, .slice A3 p2.length c3), (4, .string p4), (8, .pointer (some ⟨b1, 0, none⟩)), (11, .pointer (some ⟨b2, 0, none⟩)), (12, .pointer (some ⟨b3, 0, none⟩)), (53, .bool ((r3.2 != 0) || ((r3.1.roles.x1 != 1) || (r3.1.roles.x0 != 1))))] a ∧ Hp w V3 [box b3 36 ((.slice A5 r2.run.length c5) :: (DA16.cells (DA16.mk 0 r2.roles.x1 r2.roles.x2 r2.roles.x3 r2.roles.x4 r2.roles.x5 r2.roles.x6 r2.roles.x7 r2.roles.x8 r2.roles.x9 r2.roles.x10 r2.roles.x11 r2.roles.x12 r2.roles.x13 r2.roles.x14 r2.roles.x15) ++ (DA16.cells r2.fed))), box b2 36 ((.slice A6 r3.1.run.length c6) :: (DA16.cells r3.1.roles ++ (DA16.cells r3.1.fed))), box b1 42 [.int .i64 p3.pfs, .int .i64 p3.obj, .int .i64 p3.off]] w') ?_ ?_
 ·
  refine T.region ?_
  refine T.pure (.int .i64 r3.2) (by kernel_rfl) (fun _ => by kernel_rfl) ?_
  refine T.pure (.bool (r3.2 != 0)) (by kernel_rfl) (fun _ => by kernel_rfl) ?_
  refine T.pure (.bool (r3.2 != 0)) (by kernel_rfl) (fun _ => by kernel_rfl) ?_
  cases hg1 : (r3.2 != 0)
  ·
   skip
   refine T.pure (.pointer (some ⟨b2, 1, none⟩)) (by kernel_rfl) (fun _ => by kernel_rfl) ?_
   refine T.pure (.pointer (some ⟨b2, 2, none⟩)) (by kernel_rfl) (fun _ => by kernel_rfl) ?_
   refine T.look (.int .i64 r3.1.roles.x1) (by kernel_rfl) (fun w' hh => exec_load1 rfl rfl (by kernel_rfl) (hh.cellBox (i := 1) (by rfl) 2)) ?_
   refine T.pure (.bool (r3.1.roles.x1 != 1)) (by kernel_rfl) (fun _ => by kernel_rfl) ?_
   refine T.pure (.bool (r3.1.roles.x1 != 1)) (by kernel_rfl) (fun _ => by kernel_rfl) ?_
   refine T.pure (.bool (r3.1.roles.x1 != 1)) (by kernel_rfl) (fun _ => by kernel_rfl) ?_
   cases hg2 : (r3.1.roles.x1 != 1)
   ·
    skip
    refine T.pure (.pointer (some ⟨b2, 1, none⟩)) (by kernel_rfl) (fun _ => by kernel_rfl) ?_
    refine T.pure (.pointer (some ⟨b2, 1, none⟩)) (by kernel_rfl) (fun _ => by kernel_rfl) ?_
    refine T.look (.int .i64 r3.1.roles.x0) (by kernel_rfl) (fun w' hh => exec_load1 rfl rfl (by kernel_rfl) (hh.cellBox (i := 1) (by rfl) 1)) ?_
    refine T.pure (.bool (r3.1.roles.x0 != 1)) (by kernel_rfl) (fun _ => by kernel_rfl) ?_
    refine T.pure (.bool (r3.1.roles.x0 != 1)) (by kernel_rfl) (fun _ => by kernel_rfl) ?_
    refine T.nil ?_
    exact fun a w' hf hh => And.intro (((((((((Fr.nil hf).pick hf 53 rfl).pick hf 12 rfl).pick hf 11 rfl).pick hf 8 rfl).pick hf 4 rfl).pick hf 2 rfl).pick hf 1 rfl).pick hf 0 rfl) (hh.sub (.cons_cons _ (.cons_cons _ (.cons_cons _ List.Sublist.slnil))))
   ·
    skip
    refine T.pass (by kernel_rfl) (by kernel_rfl) ?_
    refine T.pass (by kernel_rfl) (by kernel_rfl) ?_
    refine T.pass (by kernel_rfl) (by kernel_rfl) ?_
    refine T.pass (by kernel_rfl) (by kernel_rfl) ?_
    refine T.pure (.bool true) (by kernel_rfl) (fun _ => by kernel_rfl) ?_
    refine T.nil ?_
    exact fun a w' hf hh => And.intro (((((((((Fr.nil hf).pick hf 53 rfl).pick hf 12 rfl).pick hf 11 rfl).pick hf 8 rfl).pick hf 4 rfl).pick hf 2 rfl).pick hf 1 rfl).pick hf 0 rfl) (hh.sub (.cons_cons _ (.cons_cons _ (.cons_cons _ List.Sublist.slnil))))
  ·
   skip
   refine T.pass (by kernel_rfl) (by kernel_rfl) ?_
   refine T.pass (by kernel_rfl) (by kernel_rfl) ?_
   refine T.pass (by kernel_rfl) (by kernel_rfl) ?_
   refine T.pass (by kernel_rfl) (by kernel_rfl) ?_
   refine T.pure (.bool true) (by kernel_rfl) (fun _ => by kernel_rfl) ?_
   refine T.pure (.bool true) (by kernel_rfl) (fun _ => by kernel_rfl) ?_
   refine T.pass (by kernel_rfl) (by kernel_rfl) ?_
   refine T.pass (by kernel_rfl) (by kernel_rfl) ?_
   refine T.pass (by kernel_rfl) (by kernel_rfl) ?_
   refine T.pass (by kernel_rfl) (by kernel_rfl) ?_
   refine T.pure (.bool true) (by kernel_rfl) (fun _ => by kernel_rfl) ?_
   refine T.nil ?_
   exact fun a w' hf hh => And.intro (((((((((Fr.nil hf).pick hf 53 rfl).pick hf 12 rfl).pick hf 11 rfl).pick hf 8 rfl).pick hf 4 rfl).pick hf 2 rfl).pick hf 1 rfl).pick hf 0 rfl) (hh.sub (.cons_cons _ (.cons_cons _ (.cons_cons _ List.Sublist.slnil))))
 ·
  rintro a w' ⟨hf, hh⟩
  refine (?_ : T 231 w V3 [box b3 36 ((.slice A5 r2.run.length c5) :: (DA16.cells (DA16.mk 0 r2.roles.x1 r2.roles.x2 r2.roles.x3 r2.roles.x4 r2.roles.x5 r2.roles.x6 r2.roles.x7 r2.roles.x8 r2.roles.x9 r2.roles.x10 r2.roles.x11 r2.roles.x12 r2.roles.x13 r2.roles.x14 r2.roles.x15) ++ (DA16.cells r2.fed))), box b2 36 ((.slice A6 r3.1.run.length c6) :: (DA16.cells r3.1.roles ++ (DA16.cells r3.1.fed))), box b1 42 [.int .i64 p3.pfs, .int .i64 p3.obj, .int .i64 p3.off]] [(0, .slice A1 p0.length c1), (1, .slice A2 p1.length c2), (2, .slice A3 p2.length c3), (4, .string p4), (8, .pointer (some ⟨b1, 0, none⟩)), (11, .pointer (some ⟨b2, 0, none⟩)), (12, .pointer (some ⟨b3, 0, none⟩)), (53, .bool ((r3.2 != 0) || ((r3.1.roles.x1 != 1) || (r3.1.roles.x0 != 1))))] _) a w' hf hh
  clear hf hh
  refine T.cond ((r3.2 != 0) || ((r3.1.roles.x1 != 1) || (r3.1.roles.x0 != 1))) (by kernel_rfl) (by kernel_rfl) (fun hc1 => ?_) (fun hc1 => ?_)
  ·
   rw [hc1, cond_true] at hF
   refine T.seq ?_
   refine T.region ?_
   refine T.pure (.bool false) (by kernel_rfl) (fun _ => by kernel_rfl) ?_
   refine T.nil ?_
   cases hF
   refine T.ret rfl ?_
   exact T.ret1 rfl (ResIs.tmp rfl) fun w' hh => ⟨_, rfl, hh.below, (show _ from rfl)⟩
  ·
   rw [hc1, cond_false] at hF
   refine T.skip_code ?_
   refine T.seq ?_
   refine T.region ?_
   refine T.pure (.int .i64 1) (by kernel_rfl) (fun _ => by kernel_rfl) ?_
   refine T.pure (.int .i64 0) (by kernel_rfl) (fun _ => by kernel_rfl) ?_
   refine T.nil ?_
   refine T.seq ?_
   refine T.seq ?_
   refine T.region ?_
   refine T.pure (.slice A1 p0.length c1) (by kernel_rfl) (fun _ => by kernel_rfl) ?_
   refine T.pure (.int .i64 (p0.length : Int)) (by kernel_rfl) (fun _ => by kernel_rfl) ?_
   refine T.pure (.int .i64 0) (by kernel_rfl) (fun _ => by kernel_rfl) ?_
   refine T.nil ?_
   obtain ⟨q1, hz1, hF⟩ := Option.bind_eq_some_iff.1 hF
   refine T.mid (fun a w' => ∃ (z1 : List DElem) (z2 : DA16) (z3 : DA16) (z4 : Int), q1 = Sum.inl (z1, z2, z3, z4) ∧ ∃ (A9 : Option Addr) (c9 : Nat) (V5 : View), View.le V3 V5 ∧ SlOk (made w V5) eElem A9 c9 z1 ∧ Fr 231 [(4, .string p4), (8, .pointer (some ⟨b1, 0, none⟩)), (12, .pointer (some ⟨b3, 0, none⟩)), (14, .int .i64 z4)] a ∧ Hp w V5 [box b3 36 ((.slice A9 z1.length c9) :: (DA16.cells z2 ++ (DA16.cells z3))), box b1 42 [.int .i64 p3.pfs, .int .i64 p3.obj, .int .i64 p3.off]] w') ?_ ?_
   ·
    refine T.block ?_
    refine T.iter (fun s1 a w' => ∃ (x1 : List DElem) (x2 : DA16) (x3 : DA16) (x4 : List DElem) (x5 : DA16) (x6 : DA16) (x7 : Int) (x8 : Int) (x9 : Int), s1 = (x1, x2, x3, x4, x5, x6, x7, x8, x9) ∧ ∃ (A7 : Option Addr) (c7 : Nat) (A8 : Option Addr) (c8 : Nat) (V4 : View), View.le V3 V4 ∧ SlOk (made w V4) eElem A7 c7 x1 ∧ SlOk (made w V4) eElem A8 c8 x4 ∧ Fr 231 [(1, .slice A2 p1.length c2), (2, .slice A3 p2.length c3), (4, .string p4), (8, .pointer (some ⟨b1, 0, none⟩)), (11, .pointer (some ⟨b2, 0, none⟩)), (12, .pointer (some ⟨b3, 0, none⟩)), (14, .int .i64 x7), (15, .int .i64 x8), (54, .slice A1 p0.length c1), (55, .int .i64 (p0.length : Int)), (56, .int .i64 x9)] a ∧ Hp w V4 [box b3 36 ((.slice A7 x1.length c7) :: (DA16.cells x2 ++ (DA16.cells x3))), box b2 36 ((.slice A8 x4.length c8) :: (DA16.cells x5 ++ (DA16.cells x6))), box b1 42 [.int .i64 p3.pfs, .int .i64 p3.obj, .int .i64 p3.off]] w') hz1 ?_ ?_
    ·
     exact fun a w' hf hh => Exists.intro r2.run (Exists.intro (DA16.mk 0 r2.roles.x1 r2.roles.x2 r2.roles.x3 r2.roles.x4 r2.roles.x5 r2.roles.x6 r2.roles.x7 r2.roles.x8 r2.roles.x9 r2.roles.x10 r2.roles.x11 r2.roles.x12 r2.roles.x13 r2.roles.x14 r2.roles.x15) (Exists.intro r2.fed (Exists.intro r3.1.run (Exists.intro r3.1.roles (Exists.intro r3.1.fed (Exists.intro 1 (Exists.intro 0 (Exists.intro 0 (And.intro rfl (Exists.intro A5 (Exists.intro c5 (Exists.intro A6 (Exists.intro c6 (Exists.intro V3 (And.intro (View.le_refl _) (And.intro (SlOk.mono hs5 (made_mono hV3)) (And.intro (SlOk.mono hs6 (made_mono (View.le_refl _))) (And.intro ((((((((((((Fr.nil hf).pick hf 56 rfl).pick hf 55 rfl).pick hf 54 rfl).pick hf 15 rfl).pick hf 14 rfl).pick hf 12 rfl).pick hf 11 rfl).pick hf 8 rfl).pick hf 4 rfl).pick hf 2 rfl).pick hf 1 rfl) (hh.sub (.cons_cons _ (.cons_cons _ (.cons_cons _ List.Sublist.slnil))))))))))))))))))))))
    ·
     rintro s1 y1 hY1 hr4 a w' ⟨x1, x2, x3, x4, x5, x6, x7, x8, x9, rfl, A7, c7, A8, c8, V4, hV4, hs7, hs8, hf, hh⟩
     refine (?_ : T 231 w V4 [box b3 36 ((.slice A7 x1.length c7) :: (DA16.cells x2 ++ (DA16.cells x3))), box b2 36 ((.slice A8 x4.length c8) :: (DA16.cells x5 ++ (DA16.cells x6))), box b1 42 [.int .i64 p3.pfs, .int .i64 p3.obj, .int .i64 p3.off]] [(1, .slice A2 p1.length c2), (2, .slice A3 p2.length c3), (4, .string p4), (8, .pointer (some ⟨b1, 0, none⟩)), (11, .pointer (some ⟨b2, 0, none⟩)), (12, .pointer (some ⟨b3, 0, none⟩)), (14, .int .i64 x7), (15, .int .i64 x8), (54, .slice A1 p0.length c1), (55, .int .i64 (p0.length : Int)), (56, .int .i64 x9)] _) a w' hf hh
     clear hf hh
     try dsimp only at hY1
     refine T.seq ?_
     refine T.region ?_
     refine T.pure (.bool (decide (x9 < (p0.length : Int)))) (by kernel_rfl) (fun _ => by kernel_rfl) ?_
     refine T.nil ?_
     refine T.seq ?_
     refine T.cond (decide (x9 < (p0.length : Int))) (by kernel_rfl) (by kernel_rfl) (fun hc2 => ?_) (fun hc2 => ?_)
     ·
      rw [hc2, cond_true] at hY1
      refine T.skip_code ?_
      obtain ⟨q2, hX1, hY1⟩ := Option.bind_eq_some_iff.1 hY1
      refine T.cut (fun a w' => ∃ (z5 : List DElem) (z6 : DA16) (z7 : DA16) (z8 : List DElem) (z9 : DA16) (z10 : DA16) (z11 : Int) (z12 : Int), q2 = Sum.inl (z5, z6, z7, z8, z9, z10, z11, z12) ∧ ∃ (A10 : Option Addr) (c10 : Nat) (A11 : Option Addr) (c11 : Nat) (V6 : View), View.le V4 V6 ∧ SlOk (made w V6) eElem A10 c10 z5 ∧ SlOk (made w V6) eElem A11 c11 z8 ∧ Fr 231 [(1, .slice A2 p1.length c2), (2, .slice A3 p2.length c3), (4, .string p4), (8, .pointer (some ⟨b1, 0, none⟩)), (11, .pointer (some ⟨b2, 0, none⟩)), (12, .pointer (some ⟨b3, 0, none⟩)), (14, .int .i64 z11), (15, .int .i64 z12), (54, .slice A1 p0.length c1), (55, .int .i64 (p0.length : Int)), (56, .int .i64 x9)] a ∧ Hp w V6 [box b3 36 ((.slice A10 z5.length c10) :: (DA16.cells z6 ++ (DA16.cells z7))), box b2 36 ((.slice A11 z8.length c11) :: (DA16.cells z9 ++ (DA16.cells z10))), box b1 42 [.int .i64 p3.pfs, .int .i64 p3.obj, .int .i64 p3.off]] w') ?_ ?_
      ·
       refine T.block ?_
       refine T.seq ?_
       refine T.region ?_
       refine T.pure (.int .i64 x9) (by kernel_rfl) (fun _ => by kernel_rfl) ?_
       obtain ⟨e1, hb4, hX1⟩ := Option.bind_eq_some_iff.1 hX1
       obtain ⟨hi1, hi2, hi3⟩ := idx_some hb4
       refine T.look (.pointer (some ((sadr A1).add (x9.toNat * 3)))) (by kernel_rfl) (fun w' hh => exec_indexAddr (e := 42) (s := 3) rfl rfl rfl (by kernel_rfl) (by kernel_rfl) hi1 hi2 ((SlOk.mono hs1 (View.le_trans (View.le_trans (View.le_trans hV1 hV2) hV3) hV4)).some_ hi3 (by decide))) ?_
       refine T.look (.agg #[.int .i64 e1.pfs, .int .i64 e1.obj, .int .i64 e1.off]) (by kernel_rfl) (fun w' hh => exec_loadN (cs := [.int .i64 e1.pfs, .int .i64 e1.obj, .int .i64 e1.off]) rfl rfl (by kernel_rfl) (by kernel_rfl) (fun j u hj => (hh.cell_view (SlOk.cellF (E := eKey) (SlOk.mono hs1 (View.le_trans (View.le_trans (View.le_trans hV1 hV2) hV3) hV4)) hi3 j (fun _ _ _ h => h) hj)))) ?_
       refine T.step (W1.new 42 [.int .i64 0, .int .i64 0, .int .i64 0] (fun b => .pointer (some ⟨b, 0, none⟩)) (by kernel_rfl) (fun _ => by kernel_rfl) (fun b4 => ?_))
       refine T.pure (.int .i64 x9) (by kernel_rfl) (fun _ => by kernel_rfl) ?_
       refine T.step (W1.store 0 [.int .i64 e1.pfs, .int .i64 e1.obj, .int .i64 e1.off] [box b4 42 [.int .i64 e1.pfs, .int .i64 e1.obj, .int .i64 e1.off], box b3 36 ((.slice A7 x1.length c7) :: (DA16.cells x2 ++ (DA16.cells x3))), box b2 36 ((.slice A8 x4.length c8) :: (DA16.cells x5 ++ (DA16.cells x6))), box b1 42 [.int .i64 p3.pfs, .int .i64 p3.obj, .int .i64 p3.off]] (by rfl) rfl (by kernel_rfl) (fun w' hw => exec_store (vs := [.int .i64 e1.pfs, .int .i64 e1.obj, .int .i64 e1.off]) rfl rfl rfl rfl (by kernel_rfl) (one_of rfl) (by simp) rfl hw) ?_)
       refine T.nil ?_
       refine T.seq ?_
       refine T.region ?_
       refine T.pure (.pointer (some ⟨b4, 0, none⟩)) (by kernel_rfl) (fun _ => by kernel_rfl) ?_
       refine T.step (W1.store 0 [.int .i64 1, .int .i64 e1.obj, .int .i64 e1.off] [box b4 42 [.int .i64 1, .int .i64 e1.obj, .int .i64 e1.off], box b3 36 ((.slice A7 x1.length c7) :: (DA16.cells x2 ++ (DA16.cells x3))), box b2 36 ((.slice A8 x4.length c8) :: (DA16.cells x5 ++ (DA16.cells x6))), box b1 42 [.int .i64 p3.pfs, .int .i64 p3.obj, .int .i64 p3.off]] (by rfl) rfl (by kernel_rfl) (fun w' hw => exec_store (vs := [.int .i64 1]) rfl rfl rfl rfl (by kernel_rfl) (one_of rfl) (by simp) rfl hw) ?_)
       refine T.nil ?_
       obtain ⟨z13, hX2, hX1⟩ := Option.bind_eq_some_iff.1 hX1
       refine T.cut (fun a w' => ∃ (V7 : View), View.le V4 V7 ∧ Fr 231 [(1, .slice A2 p1.length c2), (2, .slice A3 p2.length c3), (4, .string p4), (8, .pointer (some ⟨b1, 0, none⟩)), (11, .pointer (some ⟨b2, 0, none⟩)), (12, .pointer (some ⟨b3, 0, none⟩)), (14, .int .i64 z13), (15, .int .i64 x8), (16, .int .i64 x9), (17, .pointer (some ⟨b4, 0, none⟩)), (54, .slice A1 p0.length c1), (55, .int .i64 (p0.length : Int)), (56, .int .i64 x9)] a ∧ Hp w V7 [box b4 42 [.int .i64 1, .int .i64 e1.obj, .int .i64 e1.off], box b3 36 ((.slice A7 x1.length c7) :: (DA16.cells x2 ++ (DA16.cells x3))), box b2 36 ((.slice A8 x4.length c8) :: (DA16.cells x5 ++ (DA16.cells x6))), box b1 42 [.int .i64 p3.pfs, .int .i64 p3.obj, .int .i64 p3.off]] w') ?_ ?_
       ·
        refine T.seq ?_
        refine T.region ?_
        refine T.pure (.int .i64 x9) (by kernel_rfl) (fun _ => by kernel_rfl) ?_
        refine T.pure (.slice A3 p2.length c3) (by kernel_rfl) (fun _ => by kernel_rfl) ?_
        refine T.pure (.int .i64 (p2.length : Int)) (by kernel_rfl) (fun _ => by kernel_rfl) ?_
        refine T.pure (.bool (decide (x9 < (p2.length : Int)))) (by kernel_rfl) (fun _ => by kernel_rfl) ?_
        refine T.nil ?_
        refine T.cond (decide (x9 < (p2.length : Int))) (by kernel_rfl) (by kernel_rfl) (fun hc3 => ?_) (fun hc3 => ?_)
        ·
         rw [hc3, cond_true] at hX2
         refine T.region ?_
         refine T.pure (.int .i64 x7) (by kernel_rfl) (fun _ => by kernel_rfl) ?_
         refine T.pure (.slice A3 p2.length c3) (by kernel_rfl) (fun _ => by kernel_rfl) ?_
         refine T.pure (.int .i64 x9) (by kernel_rfl) (fun _ => by kernel_rfl) ?_
         obtain ⟨e2, hb5, hX2⟩ := Option.bind_eq_some_iff.1 hX2
         obtain ⟨hi4, hi5, hi6⟩ := idx_some hb5
         refine T.look (.pointer (some ((sadr A3).add (x9.toNat * 1)))) (by kernel_rfl) (fun w' hh => exec_indexAddr (e := 3) (s := 1) rfl rfl rfl (by kernel_rfl) (by kernel_rfl) hi4 hi5 ((SlOk.mono hs3 (View.le_trans (View.le_trans (View.le_trans hV1 hV2) hV3) hV4)).some_ hi6 (by decide))) ?_
         refine T.look (.int .i64 e2) (by kernel_rfl) (fun w' hh => exec_load1 rfl rfl (by kernel_rfl) (hh.cell_view (SlOk.cellF0 (E := eInt) (SlOk.mono hs3 (View.le_trans (View.le_trans (View.le_trans hV1 hV2) hV3) hV4)) hi6 (fun _ _ _ h => h) rfl))) ?_
         obtain ⟨r4, hb6, hX2⟩ := Option.bind_eq_some_iff.1 hX2
         refine T.step (W1.call (vSc eInt) r4 15 #[.int .i64 e2, .int .i64 3] (by kernel_rfl) (fun _ => by kernel_rfl) (fun w' hh => annalkeep_Within_l e2 3 r4 hb6 w' ) ?_)
         intro u V8 hV8 hu
         obtain rfl := sureInt _ _ _ hu
         refine T.pure (.int .i64 (IntKind.i64.wrap (x7 + r4))) (by kernel_rfl) (fun _ => by kernel_rfl) ?_
         refine T.pure (.int .i64 (IntKind.i64.wrap (x7 + r4))) (by kernel_rfl) (fun _ => by kernel_rfl) ?_
         refine T.nil ?_
         cases hX2
         exact fun a w' hf hh => Exists.intro V8 (And.intro hV8 (And.intro ((((((((((((((Fr.nil hf).pick hf 56 rfl).pick hf 55 rfl).pick hf 54 rfl).pick hf 17 rfl).pick hf 16 rfl).pick hf 15 rfl).pick hf 14 rfl).pick hf 12 rfl).pick hf 11 rfl).pick hf 8 rfl).pick hf 4 rfl).pick hf 2 rfl).pick hf 1 rfl) (hh.sub (.cons_cons _ (.cons_cons _ (.cons_cons _ (.cons_cons _ List.Sublist.slnil)))))))
        ·
         rw [hc3, cond_false] at hX2
         refine T.skip_code ?_
         cases hX2
         exact fun a w' hf hh => Exists.intro V4 (And.intro (View.le_refl _) (And.intro ((((((((((((((Fr.nil hf).pick hf 56 rfl).pick hf 55 rfl).pick hf 54 rfl).pick hf 17 rfl).pick hf 16 rfl).pick hf 15 rfl).pick hf 14 rfl).pick hf 12 rfl).pick hf 11 rfl).pick hf 8 rfl).pick hf 4 rfl).pick hf 2 rfl).pick hf 1 rfl) (hh.sub (.cons_cons _ (.cons_cons _ (.cons_cons _ (.cons_cons _ List.Sublist.slnil)))))))
       ·
        rintro a w' ⟨V7, hV7, hf, hh⟩
        refine (?_ : T 231 w V7 [box b4 42 [.int .i64 1, .int .i64 e1.obj, .int .i64 e1.off], box b3 36 ((.slice A7 x1.length c7) :: (DA16.cells x2 ++ (DA16.cells x3))), box b2 36 ((.slice A8 x4.length c8) :: (DA16.cells x5 ++ (DA16.cells x6))), box b1 42 [.int .i64 p3.pfs, .int .i64 p3.obj, .int .i64 p3.off]] [(1, .slice A2 p1.length c2), (2, .slice A3 p2.length c3), (4, .string p4), (8, .pointer (some ⟨b1, 0, none⟩)), (11, .pointer (some ⟨b2, 0, none⟩)), (12, .pointer (some ⟨b3, 0, none⟩)), (14, .int .i64 z13), (15, .int .i64 x8), (16, .int .i64 x9), (17, .pointer (some ⟨b4, 0, none⟩)), (54, .slice A1 p0.length c1), (55, .int .i64 (p0.length : Int)), (56, .int .i64 x9)] _) a w' hf hh
        clear hf hh
        refine T.seq ?_
        refine T.region ?_
        refine T.pure (.string (ByteArray.mk #[])) (by kernel_rfl) (fun _ => by kernel_rfl) ?_
        refine T.nil ?_
        obtain ⟨z14, hX3, hX1⟩ := Option.bind_eq_some_iff.1 hX1
        refine T.cut (fun a w' => Fr 231 [(1, .slice A2 p1.length c2), (2, .slice A3 p2.length c3), (4, .string p4), (8, .pointer (some ⟨b1, 0, none⟩)), (11, .pointer (some ⟨b2, 0, none⟩)), (12, .pointer (some ⟨b3, 0, none⟩)), (14, .int .i64 z13), (15, .int .i64 x8), (16, .int .i64 x9), (17, .pointer (some ⟨b4, 0, none⟩)), (18, .string z14), (54, .slice A1 p0.length c1), (55, .int .i64 (p0.length : Int)), (56, .int .i64 x9)] a ∧ Hp w V7 [box b4 42 [.int .i64 1, .int .i64 e1.obj, .int .i64 e1.off], box b3 36 ((.slice A7 x1.length c7) :: (DA16.cells x2 ++ (DA16.cells x3))), box b2 36 ((.slice A8 x4.length c8) :: (DA16.cells x5 ++ (DA16.cells x6))), box b1 42 [.int .i64 p3.pfs, .int .i64 p3.obj, .int .i64 p3.off]] w') ?_ ?_
        ·
         refine T.seq ?_
         refine T.region ?_
         refine T.pure (.int .i64 x9) (by kernel_rfl) (fun _ => by kernel_rfl) ?_
         refine T.pure (.slice A2 p1.length c2) (by kernel_rfl) (fun _ => by kernel_rfl) ?_
         refine T.pure (.int .i64 (p1.length : Int)) (by kernel_rfl) (fun _ => by kernel_rfl) ?_
         refine T.pure (.bool (decide (x9 < (p1.length : Int)))) (by kernel_rfl) (fun _ => by kernel_rfl) ?_
         refine T.nil ?_
         refine T.cond (decide (x9 < (p1.length : Int))) (by kernel_rfl) (by kernel_rfl) (fun hc4 => ?_) (fun hc4 => ?_)
         ·
          rw [hc4, cond_true] at hX3
          refine T.region ?_
          refine T.pure (.slice A2 p1.length c2) (by kernel_rfl) (fun _ => by kernel_rfl) ?_
          refine T.pure (.int .i64 x9) (by kernel_rfl) (fun _ => by kernel_rfl) ?_
          obtain ⟨e3, hb7, hX3⟩ := Option.bind_eq_some_iff.1 hX3
          obtain ⟨hi7, hi8, hi9⟩ := idx_some hb7
          refine T.look (.pointer (some ((sadr A2).add (x9.toNat * 1)))) (by kernel_rfl) (fun w' hh => exec_indexAddr (e := 9) (s := 1) rfl rfl rfl (by kernel_rfl) (by kernel_rfl) hi7 hi8 ((SlOk.mono hs2 (View.le_trans (View.le_trans (View.le_trans (View.le_trans hV1 hV2) hV3) hV4) hV7)).some_ hi9 (by decide))) ?_
          refine T.look (.string e3) (by kernel_rfl) (fun w' hh => exec_load1 rfl rfl (by kernel_rfl) (hh.cell_view (SlOk.cellF0 (E := eStr) (SlOk.mono hs2 (View.le_trans (View.le_trans (View.le_trans (View.le_trans hV1 hV2) hV3) hV4) hV7)) hi9 (fun _ _ _ h => h) rfl))) ?_
          refine T.pure (.string e3) (by kernel_rfl) (fun _ => by kernel_rfl) ?_
          refine T.nil ?_
          cases hX3
          exact fun a w' hf hh => And.intro (((((((((((((((Fr.nil hf).pick hf 56 rfl).pick hf 55 rfl).pick hf 54 rfl).pick hf 18 rfl).pick hf 17 rfl).pick hf 16 rfl).pick hf 15 rfl).pick hf 14 rfl).pick hf 12 rfl).pick hf 11 rfl).pick hf 8 rfl).pick hf 4 rfl).pick hf 2 rfl).pick hf 1 rfl) (hh.sub (.cons_cons _ (.cons_cons _ (.cons_cons _ (.cons_cons _ List.Sublist.slnil)))))
         ·
          rw [hc4, cond_false] at hX3
          refine T.skip_code ?_
          cases hX3
          exact fun a w' hf hh => And.intro (((((((((((((((Fr.nil hf).pick hf 56 rfl).pick hf 55 rfl).pick hf 54 rfl).pick hf 18 rfl).pick hf 17 rfl).pick hf 16 rfl).pick hf 15 rfl).pick hf 14 rfl).pick hf 12 rfl).pick hf 11 rfl).pick hf 8 rfl).pick hf 4 rfl).pick hf 2 rfl).pick hf 1 rfl) (hh.sub (.cons_cons _ (.cons_cons _ (.cons_cons _ (.cons_cons _ List.Sublist.slnil)))))
        ·
         rintro a w' ⟨hf, hh⟩
         refine (?_ : T 231 w V7 [box b4 42 [.int .i64 1, .int .i64 e1.obj, .int .i64 e1.off], box b3 36 ((.slice A7 x1.length c7) :: (DA16.cells x2 ++ (DA16.cells x3))), box b2 36 ((.slice A8 x4.length c8) :: (DA16.cells x5 ++ (DA16.cells x6))), box b1 42 [.int .i64 p3.pfs, .int .i64 p3.obj, .int .i64 p3.off]] [(1, .slice A2 p1.length c2), (2, .slice A3 p2.length c3), (4, .string p4), (8, .pointer (some ⟨b1, 0, none⟩)), (11, .pointer (some ⟨b2, 0, none⟩)), (12, .pointer (some ⟨b3, 0, none⟩)), (14, .int .i64 z13), (15, .int .i64 x8), (16, .int .i64 x9), (17, .pointer (some ⟨b4, 0, none⟩)), (18, .string z14), (54, .slice A1 p0.length c1), (55, .int .i64 (p0.length : Int)), (56, .int .i64 x9)] _) a w' hf hh
         clear hf hh
         refine T.seq ?_
         refine T.region ?_
         refine T.look (.agg (List.toArray ((.slice A8 x4.length c8) :: (DA16.cells x5 ++ (DA16.cells x6))))) (by kernel_rfl) (fun w' hh => exec_loadN (cs := ((.slice A8 x4.length c8) :: (DA16.cells x5 ++ (DA16.cells x6)))) rfl rfl (by kernel_rfl) (by kernel_rfl) (fun j u hj => (hh.box_at (i := 2) (cs := ((.slice A8 x4.length c8) :: (DA16.cells x5 ++ (DA16.cells x6)))) (by rfl) 0 j).trans (seg_at (n := 33) (by rfl) hj))) ?_
         refine T.look (.agg #[.int .i64 1, .int .i64 e1.obj, .int .i64 e1.off]) (by kernel_rfl) (fun w' hh => exec_loadN (cs := [.int .i64 1, .int .i64 e1.obj, .int .i64 e1.off]) rfl rfl (by kernel_rfl) (by kernel_rfl) (fun j u hj => (hh.box_at (i := 0) (cs := [.int .i64 1, .int .i64 e1.obj, .int .i64 e1.off]) (by rfl) 0 j).trans (seg_at (n := 3) (by rfl) hj))) ?_
         refine T.pure (.string z14) (by kernel_rfl) (fun _ => by kernel_rfl) ?_
         refine T.pure (.int .i64 z13) (by kernel_rfl) (fun _ => by kernel_rfl) ?_
         obtain ⟨r5, hb8, hX1⟩ := Option.bind_eq_some_iff.1 hX1
         refine T.step (W1.call (vT2 (vAg eBook) (vSc eInt)) r5 16 #[.agg (List.toArray ((.slice A8 x4.length c8) :: (DA16.cells x5 ++ (DA16.cells x6)))), .agg #[.int .i64 1, .int .i64 e1.obj, .int .i64 e1.off], .string z14, .int .i64 z13] (by kernel_rfl) (fun _ => by kernel_rfl) (fun w' hh => realm_Put_l F (DBook.mk x4 x5 x6) (DKey.mk 1 e1.obj e1.off) z14 z13 r5 hb8 w' A8 c8 (SlOk.mono (SlOk.mono hs8 (View.le_trans (made_le _ _) hV7)) hh.view)) ?_)
         intro u V9 hV9 hu
         obtain ⟨u3, u4, rfl, hu3, hu4⟩ := vT2_elim hu
         obtain ⟨cs4, rfl, hr5⟩ := vagg_elim hu3
         obtain ⟨A12, c12, rfl, hs12⟩ := hr5
         obtain rfl := sureInt _ _ _ hu4
         refine T.pure (.tuple #[.agg (List.toArray ((.slice A12 r5.1.run.length c12) :: (DA16.cells r5.1.roles ++ (DA16.cells r5.1.fed)))), .int .i64 r5.2]) (by kernel_rfl) (fun _ => by kernel_rfl) ?_
         refine T.pure (.agg (List.toArray ((.slice A12 r5.1.run.length c12) :: (DA16.cells r5.1.roles ++ (DA16.cells r5.1.fed))))) (by kernel_rfl) (fun _ => by kernel_rfl) ?_
         refine T.pure (.int .i64 r5.2) (by kernel_rfl) (fun _ => by kernel_rfl) ?_
         refine T.step (W1.new 36 ((.slice none 0 0) :: (DA16.cells (DA16.mk 0 0 0 0 0 0 0 0 0 0 0 0 0 0 0 0) ++ (DA16.cells (DA16.mk 0 0 0 0 0 0 0 0 0 0 0 0 0 0 0 0)))) (fun b => .pointer (some ⟨b, 0, none⟩)) (by kernel_rfl) (fun _ => by kernel_rfl) (fun b5 => ?_))
         refine T.step (W1.store 0 ((.slice A12 r5.1.run.length c12) :: (DA16.cells r5.1.roles ++ (DA16.cells r5.1.fed))) [box b5 36 ((.slice A12 r5.1.run.length c12) :: (DA16.cells r5.1.roles ++ (DA16.cells r5.1.fed))), box b4 42 [.int .i64 1, .int .i64 e1.obj, .int .i64 e1.off], box b3 36 ((.slice A7 x1.length c7) :: (DA16.cells x2 ++ (DA16.cells x3))), box b2 36 ((.slice A8 x4.length c8) :: (DA16.cells x5 ++ (DA16.cells x6))), box b1 42 [.int .i64 p3.pfs, .int .i64 p3.obj, .int .i64 p3.off]] (by rfl) rfl (by kernel_rfl) (fun w' hw => exec_store (vs := ((.slice A12 r5.1.run.length c12) :: (DA16.cells r5.1.roles ++ (DA16.cells r5.1.fed)))) rfl rfl rfl rfl (by kernel_rfl) (one_of rfl) (Nat.le_of_ble_eq_true (by rfl)) rfl hw) ?_)
         refine T.pure (.int .i64 r5.2) (by kernel_rfl) (fun _ => by kernel_rfl) ?_
         refine T.nil ?_
         obtain ⟨q3, hX4, hX1⟩ := Option.bind_eq_some_iff.1 hX1
         refine T.cut (fun a w' => ∃ (z15 : List DElem) (z16 : DA16) (z17 : DA16) (z18 : Int), q3 = (z15, z16, z17, z18) ∧ ∃ (A13 : Option Addr) (c13 : Nat) (V10 : View), View.le V9 V10 ∧ SlOk (made w V10) eElem A13 c13 z15 ∧ Fr 231 [(1, .slice A2 p1.length c2), (2, .slice A3 p2.length c3), (4, .string p4), (8, .pointer (some ⟨b1, 0, none⟩)), (11, .pointer (some ⟨b2, 0, none⟩)), (12, .pointer (some ⟨b3, 0, none⟩)), (14, .int .i64 z13), (15, .int .i64 x8), (16, .int .i64 x9), (19, .pointer (some ⟨b5, 0, none⟩)), (20, .int .i64 z18), (54, .slice A1 p0.length c1), (55, .int .i64 (p0.length : Int)), (56, .int .i64 x9)] a ∧ Hp w V10 [box b5 36 ((.slice A13 z15.length c13) :: (DA16.cells z16 ++ (DA16.cells z17))), box b3 36 ((.slice A7 x1.length c7) :: (DA16.cells x2 ++ (DA16.cells x3))), box b2 36 ((.slice A8 x4.length c8) :: (DA16.cells x5 ++ (DA16.cells x6))), box b1 42 [.int .i64 p3.pfs, .int .i64 p3.obj, .int .i64 p3.off]] w') ?_ ?_
         ·
          refine T.seq ?_
          refine T.region ?_
          refine T.pure (.int .i64 x9) (by kernel_rfl) (fun _ => by kernel_rfl) ?_
          refine T.pure (.int .i64 ((x9 : Int).tmod 4)) (by kernel_rfl) (fun _ => by kernel_rfl) ?_
          refine T.pure (.bool (((x9 : Int).tmod 4) == 3)) (by kernel_rfl) (fun _ => by kernel_rfl) ?_
          refine T.nil ?_
          refine T.cond (((x9 : Int).tmod 4) == 3) (by kernel_rfl) (by kernel_rfl) (fun hc5 => ?_) (fun hc5 => ?_)
          ·
           rw [hc5, cond_true] at hX4
           refine T.region ?_
           refine T.look (.agg (List.toArray ((.slice A8 x4.length c8) :: (DA16.cells x5 ++ (DA16.cells x6))))) (by kernel_rfl) (fun w' hh => exec_loadN (cs := ((.slice A8 x4.length c8) :: (DA16.cells x5 ++ (DA16.cells x6)))) rfl rfl (by kernel_rfl) (by kernel_rfl) (fun j u hj => (hh.box_at (i := 3) (cs := ((.slice A8 x4.length c8) :: (DA16.cells x5 ++ (DA16.cells x6)))) (by rfl) 0 j).trans (seg_at (n := 33) (by rfl) hj))) ?_
           refine T.look (.agg #[.int .i64 1, .int .i64 e1.obj, .int .i64 e1.off]) (by kernel_rfl) (fun w' hh => exec_loadN (cs := [.int .i64 1, .int .i64 e1.obj, .int .i64 e1.off]) rfl rfl (by kernel_rfl) (by kernel_rfl) (fun j u hj => (hh.box_at (i := 1) (cs := [.int .i64 1, .int .i64 e1.obj, .int .i64 e1.off]) (by rfl) 0 j).trans (seg_at (n := 3) (by rfl) hj))) ?_
           refine T.pure (.int .i64 z13) (by kernel_rfl) (fun _ => by kernel_rfl) ?_
           obtain ⟨r6, hb9, hX4⟩ := Option.bind_eq_some_iff.1 hX4
           refine T.step (W1.call (vT2 (vAg eBook) (vSc eInt)) r6 30 #[.agg (List.toArray ((.slice A8 x4.length c8) :: (DA16.cells x5 ++ (DA16.cells x6)))), .agg #[.int .i64 1, .int .i64 e1.obj, .int .i64 e1.off], .int .i64 z13] (by kernel_rfl) (fun _ => by kernel_rfl) (fun w' hh => realm_Cut_l F (DBook.mk x4 x5 x6) (DKey.mk 1 e1.obj e1.off) z13 r6 hb9 w' A8 c8 (SlOk.mono (SlOk.mono hs8 (View.le_trans (made_le _ _) (View.le_trans hV7 hV9))) hh.view)) ?_)
           intro u V11 hV11 hu
           obtain ⟨u5, u6, rfl, hu5, hu6⟩ := vT2_elim hu
           obtain ⟨cs5, rfl, hr6⟩ := vagg_elim hu5
           obtain ⟨A14, c14, rfl, hs14⟩ := hr6
           obtain rfl := sureInt _ _ _ hu6
           refine T.pure (.tuple #[.agg (List.toArray ((.slice A14 r6.1.run.length c14) :: (DA16.cells r6.1.roles ++ (DA16.cells r6.1.fed)))), .int .i64 r6.2]) (by kernel_rfl) (fun _ => by kernel_rfl) ?_
           refine T.pure (.agg (List.toArray ((.slice A14 r6.1.run.length c14) :: (DA16.cells r6.1.roles ++ (DA16.cells r6.1.fed))))) (by kernel_rfl) (fun _ => by kernel_rfl) ?_
           refine T.pure (.int .i64 r6.2) (by kernel_rfl) (fun _ => by kernel_rfl) ?_
           refine T.step (W1.store 0 ((.slice A14 r6.1.run.length c14) :: (DA16.cells r6.1.roles ++ (DA16.cells r6.1.fed))) [box b5 36 ((.slice A14 r6.1.run.length c14) :: (DA16.cells r6.1.roles ++ (DA16.cells r6.1.fed))), box b4 42 [.int .i64 1, .int .i64 e1.obj, .int .i64 e1.off], box b3 36 ((.slice A7 x1.length c7) :: (DA16.cells x2 ++ (DA16.cells x3))), box b2 36 ((.slice A8 x4.length c8) :: (DA16.cells x5 ++ (DA16.cells x6))), box b1 42 [.int .i64 p3.pfs, .int .i64 p3.obj, .int .i64 p3.off]] (by rfl) rfl (by kernel_rfl) (fun w' hw => exec_store (vs := ((.slice A14 r6.1.run.length c14) :: (DA16.cells r6.1.roles ++ (DA16.cells r6.1.fed)))) rfl rfl rfl rfl (by kernel_rfl) (one_of rfl) (Nat.le_of_ble_eq_true (by rfl)) rfl hw) ?_)
           refine T.pure (.int .i64 r6.2) (by kernel_rfl) (fun _ => by kernel_rfl) ?_
           refine T.nil ?_
           cases hX4
           exact fun a w' hf hh => Exists.intro r6.1.run (Exists.intro r6.1.roles (Exists.intro r6.1.fed (Exists.intro r6.2 (And.intro rfl (Exists.intro A14 (Exists.intro c14 (Exists.intro V11 (And.intro hV11 (And.intro (SlOk.mono hs14 (made_mono (View.le_refl _))) (And.intro (((((((((((((((Fr.nil hf).pick hf 56 rfl).pick hf 55 rfl).pick hf 54 rfl).pick hf 20 rfl).pick hf 19 rfl).pick hf 16 rfl).pick hf 15 rfl).pick hf 14 rfl).pick hf 12 rfl).pick hf 11 rfl).pick hf 8 rfl).pick hf 4 rfl).pick hf 2 rfl).pick hf 1 rfl) (hh.sub (.cons_cons _ (.cons _ (.cons_cons _ (.cons_cons _ (.cons_cons _ List.Sublist.slnil))))))))))))))))
          ·
           rw [hc5, cond_false] at hX4
           refine T.skip_code ?_
           cases hX4
           exact fun a w' hf hh => Exists.intro r5.1.run (Exists.intro r5.1.roles (Exists.intro r5.1.fed (Exists.intro r5.2 (And.intro rfl (Exists.intro A12 (Exists.intro c12 (Exists.intro V9 (And.intro (View.le_refl _) (And.intro (SlOk.mono hs12 (made_mono (View.le_refl _))) (And.intro (((((((((((((((Fr.nil hf).pick hf 56 rfl).pick hf 55 rfl).pick hf 54 rfl).pick hf 20 rfl).pick hf 19 rfl).pick hf 16 rfl).pick hf 15 rfl).pick hf 14 rfl).pick hf 12 rfl).pick hf 11 rfl).pick hf 8 rfl).pick hf 4 rfl).pick hf 2 rfl).pick hf 1 rfl) (hh.sub (.cons_cons _ (.cons _ (.cons_cons _ (.cons_cons _ (.cons_cons _ List.Sublist.slnil))))))))))))))))
         ·
          rintro a w' ⟨z15, z16, z17, z18, rfl, A13, c13, V10, hV10, hs13, hf, hh⟩
          try dsimp only at hX1
          refine (?_ : T 231 w V10 [box b5 36 ((.slice A13 z15.length c13) :: (DA16.cells z16 ++ (DA16.cells z17))), box b3 36 ((.slice A7 x1.length c7) :: (DA16.cells x2 ++ (DA16.cells x3))), box b2 36 ((.slice A8 x4.length c8) :: (DA16.cells x5 ++ (DA16.cells x6))), box b1 42 [.int .i64 p3.pfs, .int .i64 p3.obj, .int .i64 p3.off]] [(1, .slice A2 p1.length c2), (2, .slice A3 p2.length c3), (4, .string p4), (8, .pointer (some ⟨b1, 0, none⟩)), (11, .pointer (some ⟨b2, 0, none⟩)), (12, .pointer (some ⟨b3, 0, none⟩)), (14, .int .i64 z13), (15, .int .i64 x8), (16, .int .i64 x9), (19, .pointer (some ⟨b5, 0, none⟩)), (20, .int .i64 z18), (54, .slice A1 p0.length c1), (55, .int .i64 (p0.length : Int)), (56, .int .i64 x9)] _) a w' hf hh
          clear hf hh
          obtain ⟨q4, hX5, hX1⟩ := Option.bind_eq_some_iff.1 hX1
          refine T.cut (fun a w' => ∃ (z19 : List DElem) (z20 : DA16) (z21 : DA16), q4 = (z19, z20, z21) ∧ ∃ (A15 : Option Addr) (c15 : Nat) (V12 : View), View.le V10 V12 ∧ SlOk (made w V12) eElem A15 c15 z19 ∧ Fr 231 [(1, .slice A2 p1.length c2), (2, .slice A3 p2.length c3), (4, .string p4), (8, .pointer (some ⟨b1, 0, none⟩)), (11, .pointer (some ⟨b2, 0, none⟩)), (12, .pointer (some ⟨b3, 0, none⟩)), (14, .int .i64 z13), (15, .int .i64 x8), (16, .int .i64 x9), (54, .slice A1 p0.length c1), (55, .int .i64 (p0.length : Int)), (56, .int .i64 x9)] a ∧ Hp w V12 [box b3 36 ((.slice A7 x1.length c7) :: (DA16.cells x2 ++ (DA16.cells x3))), box b2 36 ((.slice A15 z19.length c15) :: (DA16.cells z20 ++ (DA16.cells z21))), box b1 42 [.int .i64 p3.pfs, .int .i64 p3.obj, .int .i64 p3.off]] w') ?_ ?_
          ·
           refine T.seq ?_
           refine T.region ?_
           refine T.pure (.int .i64 z18) (by kernel_rfl) (fun _ => by kernel_rfl) ?_
           refine T.pure (.bool (z18 == 0)) (by kernel_rfl) (fun _ => by kernel_rfl) ?_
           refine T.nil ?_
           refine T.cond (z18 == 0) (by kernel_rfl) (by kernel_rfl) (fun hc6 => ?_) (fun hc6 => ?_)
           ·
            rw [hc6, cond_true] at hX5
            refine T.region ?_
            refine T.look (.agg (List.toArray ((.slice A13 z15.length c13) :: (DA16.cells z16 ++ (DA16.cells z17))))) (by kernel_rfl) (fun w' hh => exec_loadN (cs := ((.slice A13 z15.length c13) :: (DA16.cells z16 ++ (DA16.cells z17)))) rfl rfl (by kernel_rfl) (by kernel_rfl) (fun j u hj => (hh.box_at (i := 0) (cs := ((.slice A13 z15.length c13) :: (DA16.cells z16 ++ (DA16.cells z17)))) (by rfl) 0 j).trans (seg_at (n := 33) (by rfl) hj))) ?_
            refine T.step (W1.store 2 ((.slice A13 z15.length c13) :: (DA16.cells z16 ++ (DA16.cells z17))) [box b5 36 ((.slice A13 z15.length c13) :: (DA16.cells z16 ++ (DA16.cells z17))), box b3 36 ((.slice A7 x1.length c7) :: (DA16.cells x2 ++ (DA16.cells x3))), box b2 36 ((.slice A13 z15.length c13) :: (DA16.cells z16 ++ (DA16.cells z17))), box b1 42 [.int .i64 p3.pfs, .int .i64 p3.obj, .int .i64 p3.off]] (by rfl) rfl (by kernel_rfl) (fun w' hw => exec_store (vs := ((.slice A13 z15.length c13) :: (DA16.cells z16 ++ (DA16.cells z17)))) rfl rfl rfl rfl (by kernel_rfl) (one_of rfl) (Nat.le_of_ble_eq_true (by rfl)) rfl hw) ?_)
            refine T.nil ?_
            cases hX5
            exact fun a w' hf hh => Exists.intro z15 (Exists.intro z16 (Exists.intro z17 (And.intro rfl (Exists.intro A13 (Exists.intro c13 (Exists.intro V10 (And.intro (View.le_refl _) (And.intro (SlOk.mono hs13 (made_mono (View.le_refl _))) (And.intro (((((((((((((Fr.nil hf).pick hf 56 rfl).pick hf 55 rfl).pick hf 54 rfl).pick hf 16 rfl).pick hf 15 rfl).pick hf 14 rfl).pick hf 12 rfl).pick hf 11 rfl).pick hf 8 rfl).pick hf 4 rfl).pick hf 2 rfl).pick hf 1 rfl) (hh.sub (.cons _ (.cons_cons _ (.cons_cons _ (.cons_cons _ List.Sublist.slnil))))))))))))))
           ·
            rw [hc6, cond_false] at hX5
            refine T.skip_code ?_
            cases hX5
            exact fun a w' hf hh => Exists.intro x4 (Exists.intro x5 (Exists.intro x6 (And.intro rfl (Exists.intro A8 (Exists.intro c8 (Exists.intro V10 (And.intro (View.le_refl _) (And.intro (SlOk.mono hs8 (made_mono (View.le_trans (View.le_trans hV7 hV9) hV10))) (And.intro (((((((((((((Fr.nil hf).pick hf 56 rfl).pick hf 55 rfl).pick hf 54 rfl).pick hf 16 rfl).pick hf 15 rfl).pick hf 14 rfl).pick hf 12 rfl).pick hf 11 rfl).pick hf 8 rfl).pick hf 4 rfl).pick hf 2 rfl).pick hf 1 rfl) (hh.sub (.cons _ (.cons_cons _ (.cons_cons _ (.cons_cons _ List.Sublist.slnil))))))))))))))
          ·
           rintro a w' ⟨z19, z20, z21, rfl, A15, c15, V12, hV12, hs15, hf, hh⟩
           try dsimp only at hX1
           refine (?_ : T 231 w V12 [box b3 36 ((.slice A7 x1.length c7) :: (DA16.cells x2 ++ (DA16.cells x3))), box b2 36 ((.slice A15 z19.length c15) :: (DA16.cells z20 ++ (DA16.cells z21))), box b1 42 [.int .i64 p3.pfs, .int .i64 p3.obj, .int .i64 p3.off]] [(1, .slice A2 p1.length c2), (2, .slice A3 p2.length c3), (4, .string p4), (8, .pointer (some ⟨b1, 0, none⟩)), (11, .pointer (some ⟨b2, 0, none⟩)), (12, .pointer (some ⟨b3, 0, none⟩)), (14, .int .i64 z13), (15, .int .i64 x8), (16, .int .i64 x9), (54, .slice A1 p0.length c1), (55, .int .i64 (p0.length : Int)), (56, .int .i64 x9)] _) a w' hf hh
           clear hf hh
           refine T.seq ?_
           refine T.seq ?_
           refine T.region ?_
           refine T.pure (.int .i64 x9) (by kernel_rfl) (fun _ => by kernel_rfl) ?_
           refine T.pure (.int .i64 ((x9 : Int).tmod 3)) (by kernel_rfl) (fun _ => by kernel_rfl) ?_
           refine T.pure (.bool (decide ((0 : Int) < ((x9 : Int).tmod 3)))) (by kernel_rfl) (fun _ => by kernel_rfl) ?_
           refine T.nil ?_
           refine T.cond (decide ((0 : Int) < ((x9 : Int).tmod 3))) (by kernel_rfl) (by kernel_rfl) (fun hc7 => ?_) (fun hc7 => ?_)
           ·
            rw [hc7, cond_true] at hX1
            refine T.exit ?_
            cases hX1
            exact fun a w' hf hh => Exists.intro x1 (Exists.intro x2 (Exists.intro x3 (Exists.intro z19 (Exists.intro z20 (Exists.intro z21 (Exists.intro z13 (Exists.intro x8 (And.intro rfl (Exists.intro A7 (Exists.intro c7 (Exists.intro A15 (Exists.intro c15 (Exists.intro V12 (And.intro (View.le_trans (View.le_trans (View.le_trans hV7 hV9) hV10) hV12) (And.intro (SlOk.mono hs7 (made_mono (View.le_trans (View.le_trans (View.le_trans hV7 hV9) hV10) hV12))) (And.intro (SlOk.mono hs15 (made_mono (View.le_refl _))) (And.intro ((((((((((((Fr.nil hf).pick hf 56 rfl).pick hf 55 rfl).pick hf 54 rfl).pick hf 15 rfl).pick hf 14 rfl).pick hf 12 rfl).pick hf 11 rfl).pick hf 8 rfl).pick hf 4 rfl).pick hf 2 rfl).pick hf 1 rfl) (hh.sub (.cons_cons _ (.cons_cons _ (.cons_cons _ List.Sublist.slnil)))))))))))))))))))))
           ·
            rw [hc7, cond_false] at hX1
            refine T.skip_code ?_
            refine T.seq ?_
            refine T.region ?_
            refine T.pure (.pointer (some ⟨b2, 0, none⟩)) (by kernel_rfl) (fun _ => by kernel_rfl) ?_
            refine T.look (.slice A15 z19.length c15) (by kernel_rfl) (fun w' hh => exec_load1 rfl rfl (by kernel_rfl) (hh.cellBox (i := 1) (by rfl) 0)) ?_
            refine T.pure (.int .i64 x8) (by kernel_rfl) (fun _ => by kernel_rfl) ?_
            refine T.pure (.int .i64 z13) (by kernel_rfl) (fun _ => by kernel_rfl) ?_
            obtain ⟨r7, hb10, hX1⟩ := Option.bind_eq_some_iff.1 hX1
            refine T.step (W1.call (vT2 (vSc eStr) (vSc eInt)) r7 34 #[.slice A15 z19.length c15, .int .i64 1, .int .i64 x8, .int .i64 z13] (by kernel_rfl) (fun _ => by kernel_rfl) (fun w' hh => stream_Read_l F z19 1 x8 z13 r7 hb10 w' A15 c15 (SlOk.mono (SlOk.mono hs15 (View.le_trans (made_le _ _) (View.le_refl _))) hh.view)) ?_)
            intro u V13 hV13 hu
            obtain rfl := (Sure.t2 sureStr sureInt) _ _ _ hu
            refine T.pure (.tuple #[.string r7.1, .int .i64 r7.2]) (by kernel_rfl) (fun _ => by kernel_rfl) ?_
            refine T.pure (.string r7.1) (by kernel_rfl) (fun _ => by kernel_rfl) ?_
            refine T.pure (.int .i64 r7.2) (by kernel_rfl) (fun _ => by kernel_rfl) ?_
            refine T.pure (.string r7.1) (by kernel_rfl) (fun _ => by kernel_rfl) ?_
            refine T.pure (.int .i64 r7.2) (by kernel_rfl) (fun _ => by kernel_rfl) ?_
            refine T.nil ?_
            refine T.seq ?_
            refine T.seq ?_
            refine T.region ?_
            refine T.pure (.int .i64 r7.2) (by kernel_rfl) (fun _ => by kernel_rfl) ?_
            refine T.pure (.bool (r7.2 != 0)) (by kernel_rfl) (fun _ => by kernel_rfl) ?_
            refine T.nil ?_
            refine T.cond (r7.2 != 0) (by kernel_rfl) (by kernel_rfl) (fun hc8 => ?_) (fun hc8 => ?_)
            ·
             rw [hc8, cond_true] at hX1
             refine T.seq ?_
             refine T.region ?_
             refine T.pure (.bool false) (by kernel_rfl) (fun _ => by kernel_rfl) ?_
             refine T.nil ?_
             cases hX1
             try dsimp only at hY1
             cases hY1
             cases (hr4 _ rfl)
             try dsimp only at hF
             cases hF
             refine T.ret rfl ?_
             exact T.ret1 rfl (ResIs.tmp rfl) fun w' hh => ⟨_, rfl, hh.below, (show _ from rfl)⟩
            ·
             rw [hc8, cond_false] at hX1
             refine T.skip_code ?_
             refine T.seq ?_
             refine T.seq ?_
             refine T.region ?_
             refine T.look (.agg (List.toArray ((.slice A7 x1.length c7) :: (DA16.cells x2 ++ (DA16.cells x3))))) (by kernel_rfl) (fun w' hh => exec_loadN (cs := ((.slice A7 x1.length c7) :: (DA16.cells x2 ++ (DA16.cells x3)))) rfl rfl (by kernel_rfl) (by kernel_rfl) (fun j u hj => (hh.box_at (i := 0) (cs := ((.slice A7 x1.length c7) :: (DA16.cells x2 ++ (DA16.cells x3)))) (by rfl) 0 j).trans (seg_at (n := 33) (by rfl) hj))) ?_
             refine T.pure (.string r7.1) (by kernel_rfl) (fun _ => by kernel_rfl) ?_
             obtain ⟨r8, hb11, hX1⟩ := Option.bind_eq_some_iff.1 hX1
             refine T.step (W1.call (vT2 (vAg eBook) (vSc eInt)) r8 31 #[.agg (List.toArray ((.slice A7 x1.length c7) :: (DA16.cells x2 ++ (DA16.cells x3)))), .string r7.1] (by kernel_rfl) (fun _ => by kernel_rfl) (fun w' hh => realm_Feed_l F (DBook.mk x1 x2 x3) r7.1 r8 hb11 w' A7 c7 (SlOk.mono (SlOk.mono hs7 (View.le_trans (made_le _ _) (View.le_trans (View.le_trans (View.le_trans (View.le_trans hV7 hV9) hV10) hV12) hV13))) hh.view)) ?_)
             intro u V14 hV14 hu
             obtain ⟨u7, u8, rfl, hu7, hu8⟩ := vT2_elim hu
             obtain ⟨cs6, rfl, hr7⟩ := vagg_elim hu7
             obtain ⟨A16, c16, rfl, hs16⟩ := hr7
             obtain rfl := sureInt _ _ _ hu8
             refine T.pure (.tuple #[.agg (List.toArray ((.slice A16 r8.1.run.length c16) :: (DA16.cells r8.1.roles ++ (DA16.cells r8.1.fed)))), .int .i64 r8.2]) (by kernel_rfl) (fun _ => by kernel_rfl) ?_
             refine T.pure (.agg (List.toArray ((.slice A16 r8.1.run.length c16) :: (DA16.cells r8.1.roles ++ (DA16.cells r8.1.fed))))) (by kernel_rfl) (fun _ => by kernel_rfl) ?_
             refine T.pure (.int .i64 r8.2) (by kernel_rfl) (fun _ => by kernel_rfl) ?_
             refine T.step (W1.store 0 ((.slice A16 r8.1.run.length c16) :: (DA16.cells r8.1.roles ++ (DA16.cells r8.1.fed))) [box b3 36 ((.slice A16 r8.1.run.length c16) :: (DA16.cells r8.1.roles ++ (DA16.cells r8.1.fed))), box b2 36 ((.slice A15 z19.length c15) :: (DA16.cells z20 ++ (DA16.cells z21))), box b1 42 [.int .i64 p3.pfs, .int .i64 p3.obj, .int .i64 p3.off]] (by rfl) rfl (by kernel_rfl) (fun w' hw => exec_store (vs := ((.slice A16 r8.1.run.length c16) :: (DA16.cells r8.1.roles ++ (DA16.cells r8.1.fed)))) rfl rfl rfl rfl (by kernel_rfl) (one_of rfl) (Nat.le_of_ble_eq_true (by rfl)) rfl hw) ?_)
             refine T.pure (.int .i64 r8.2) (by kernel_rfl) (fun _ => by kernel_rfl) ?_
             refine T.nil ?_
             refine T.seq ?_
             refine T.region ?_
             refine T.pure (.int .i64 r8.2) (by kernel_rfl) (fun _ => by kernel_rfl) ?_
             refine T.pure (.bool (r8.2 != 0)) (by kernel_rfl) (fun _ => by kernel_rfl) ?_
             refine T.nil ?_
             refine T.cond (r8.2 != 0) (by kernel_rfl) (by kernel_rfl) (fun hc9 => ?_) (fun hc9 => ?_)
             ·
              rw [hc9, cond_true] at hX1
              refine T.seq ?_
              refine T.region ?_
              refine T.pure (.bool false) (by kernel_rfl) (fun _ => by kernel_rfl) ?_
              refine T.nil ?_
              cases hX1
              try dsimp only at hY1
              cases hY1
              cases (hr4 _ rfl)
              try dsimp only at hF
              cases hF
              refine T.ret rfl ?_
              exact T.ret1 rfl (ResIs.tmp rfl) fun w' hh => ⟨_, rfl, hh.below, (show _ from rfl)⟩
             ·
              rw [hc9, cond_false] at hX1
              refine T.skip_code ?_
              refine T.seq ?_
              refine T.region ?_
              refine T.pure (.int .i64 z13) (by kernel_rfl) (fun _ => by kernel_rfl) ?_
              refine T.pure (.int .i64 z13) (by kernel_rfl) (fun _ => by kernel_rfl) ?_
              refine T.nil ?_
              refine T.seq ?_
              refine T.region ?_
              refine T.pure (.pointer (some ⟨b2, 0, none⟩)) (by kernel_rfl) (fun _ => by kernel_rfl) ?_
              refine T.look (.slice A15 z19.length c15) (by kernel_rfl) (fun w' hh => exec_load1 rfl rfl (by kernel_rfl) (hh.cellBox (i := 1) (by rfl) 0)) ?_
              refine T.pure (.int .i64 z13) (by kernel_rfl) (fun _ => by kernel_rfl) ?_
              obtain ⟨r9, hb12, hX1⟩ := Option.bind_eq_some_iff.1 hX1
              refine T.step (W1.call (vT2 (vSc (eList eElem)) (vSc eInt)) r9 35 #[.slice A15 z19.length c15, .int .i64 1, .int .i64 z13] (by kernel_rfl) (fun _ => by kernel_rfl) (fun w' hh => stream_Upto_l F z19 1 z13 r9 hb12 w' A15 c15 (SlOk.mono (SlOk.mono hs15 (View.le_trans (made_le _ _) (View.le_trans hV13 hV14))) hh.view)) ?_)
              intro u V15 hV15 hu
              obtain ⟨u9, u10, rfl, hu9, hu10⟩ := vT2_elim hu
              obtain ⟨A17, c17, rfl, hs17⟩ := vlist_elim hu9
              obtain rfl := sureInt _ _ _ hu10
              refine T.pure (.tuple #[.slice A17 r9.1.length c17, .int .i64 r9.2]) (by kernel_rfl) (fun _ => by kernel_rfl) ?_
              refine T.pure (.slice A17 r9.1.length c17) (by kernel_rfl) (fun _ => by kernel_rfl) ?_
              refine T.pure (.int .i64 r9.2) (by kernel_rfl) (fun _ => by kernel_rfl) ?_
              refine T.pure (.slice A17 r9.1.length c17) (by kernel_rfl) (fun _ => by kernel_rfl) ?_
              refine T.pure (.int .i64 r9.2) (by kernel_rfl) (fun _ => by kernel_rfl) ?_
              refine T.nil ?_
              refine T.seq ?_
              obtain ⟨z22, hX6, hX1⟩ := Option.bind_eq_some_iff.1 hX1
              refine T.cut (fun a w' => ∃ (V16 : View), View.le V15 V16 ∧ Fr 231 [(1, .slice A2 p1.length c2), (2, .slice A3 p2.length c3), (4, .string p4), (8, .pointer (some ⟨b1, 0, none⟩)), (11, .pointer (some ⟨b2, 0, none⟩)), (12, .pointer (some ⟨b3, 0, none⟩)), (14, .int .i64 z13), (15, .int .i64 z13), (54, .slice A1 p0.length c1), (55, .int .i64 (p0.length : Int)), (56, .int .i64 x9), (146, .bool z22)] a ∧ Hp w V16 [box b3 36 ((.slice A16 r8.1.run.length c16) :: (DA16.cells r8.1.roles ++ (DA16.cells r8.1.fed))), box b2 36 ((.slice A15 z19.length c15) :: (DA16.cells z20 ++ (DA16.cells z21))), box b1 42 [.int .i64 p3.pfs, .int .i64 p3.obj, .int .i64 p3.off]] w') ?_ ?_
              ·
               refine T.region ?_
               refine T.pure (.int .i64 r9.2) (by kernel_rfl) (fun _ => by kernel_rfl) ?_
               refine T.pure (.bool (r9.2 != 0)) (by kernel_rfl) (fun _ => by kernel_rfl) ?_
               refine T.pure (.bool (r9.2 != 0)) (by kernel_rfl) (fun _ => by kernel_rfl) ?_
               cases hg3 : (r9.2 != 0)
               ·
                skip
                rw [hg3, cond_false] at hX6
                refine T.pure (.slice A17 r9.1.length c17) (by kernel_rfl) (fun _ => by kernel_rfl) ?_
                refine T.pure (.pointer (some ⟨b3, 0, none⟩)) (by kernel_rfl) (fun _ => by kernel_rfl) ?_
                refine T.look (.slice A16 r8.1.run.length c16) (by kernel_rfl) (fun w' hh => exec_load1 rfl rfl (by kernel_rfl) (hh.cellBox (i := 0) (by rfl) 0)) ?_
                obtain ⟨r10, hb13, hX6⟩ := Option.bind_eq_some_iff.1 hX6
                refine T.step (W1.call (vSc eBool) r10 29 #[.slice A17 r9.1.length c17, .slice A16 r8.1.run.length c16] (by kernel_rfl) (fun _ => by kernel_rfl) (fun w' hh => slices_Equal_Elem_l F r9.1 r8.1.run r10 hb13 w' A17 c17 (SlOk.mono (SlOk.mono hs17 (View.le_trans (made_le _ _) (View.le_refl _))) hh.view) A16 c16 (SlOk.mono (SlOk.mono hs16 (View.le_trans (made_le _ _) hV15)) hh.view)) ?_)
                intro u V17 hV17 hu
                obtain rfl := sureBool _ _ _ hu
                refine T.pure (.bool (!r10)) (by kernel_rfl) (fun _ => by kernel_rfl) ?_
                refine T.pure (.bool (!r10)) (by kernel_rfl) (fun _ => by kernel_rfl) ?_
                refine T.pure (.bool (!r10)) (by kernel_rfl) (fun _ => by kernel_rfl) ?_
                cases hg4 : (!r10)
                ·
                 skip
                 rw [hg4, cond_false] at hX6
                 refine T.pure (.pointer (some ⟨b3, 17, none⟩)) (by kernel_rfl) (fun _ => by kernel_rfl) ?_
                 refine T.pure (.pointer (some ⟨b3, 18, none⟩)) (by kernel_rfl) (fun _ => by kernel_rfl) ?_
                 refine T.look (.int .i64 r8.1.fed.x1) (by kernel_rfl) (fun w' hh => exec_load1 rfl rfl (by kernel_rfl) (hh.cellBox (i := 0) (by rfl) 18)) ?_
                 refine T.pure (.int .i64 z13) (by kernel_rfl) (fun _ => by kernel_rfl) ?_
                 refine T.pure (.bool (r8.1.fed.x1 != z13)) (by kernel_rfl) (fun _ => by kernel_rfl) ?_
                 refine T.pure (.bool (r8.1.fed.x1 != z13)) (by kernel_rfl) (fun _ => by kernel_rfl) ?_
                 refine T.nil ?_
                 cases hX6
                 exact fun a w' hf hh => Exists.intro V17 (And.intro hV17 (And.intro (((((((((((((Fr.nil hf).pick hf 146 rfl).pick hf 56 rfl).pick hf 55 rfl).pick hf 54 rfl).pick hf 15 rfl).pick hf 14 rfl).pick hf 12 rfl).pick hf 11 rfl).pick hf 8 rfl).pick hf 4 rfl).pick hf 2 rfl).pick hf 1 rfl) (hh.sub (.cons_cons _ (.cons_cons _ (.cons_cons _ List.Sublist.slnil))))))
                ·
                 skip
                 rw [hg4, cond_true] at hX6
                 refine T.pass (by kernel_rfl) (by kernel_rfl) ?_
                 refine T.pass (by kernel_rfl) (by kernel_rfl) ?_
                 refine T.pass (by kernel_rfl) (by kernel_rfl) ?_
                 refine T.pass (by kernel_rfl) (by kernel_rfl) ?_
                 refine T.pass (by kernel_rfl) (by kernel_rfl) ?_
                 refine T.pure (.bool true) (by kernel_rfl) (fun _ => by kernel_rfl) ?_
                 refine T.nil ?_
                 cases hX6
                 exact fun a w' hf hh => Exists.intro V17 (And.intro hV17 (And.intro (((((((((((((Fr.nil hf).pick hf 146 rfl).pick hf 56 rfl).pick hf 55 rfl).pick hf 54 rfl).pick hf 15 rfl).pick hf 14 rfl).pick hf 12 rfl).pick hf 11 rfl).pick hf 8 rfl).pick hf 4 rfl).pick hf 2 rfl).pick hf 1 rfl) (hh.sub (.cons_cons _ (.cons_cons _ (.cons_cons _ List.Sublist.slnil))))))
               ·
                skip
                rw [hg3, cond_true] at hX6
                refine T.pass (by kernel_rfl) (by kernel_rfl) ?_
                refine T.pass (by kernel_rfl) (by kernel_rfl) ?_
                refine T.pass (by kernel_rfl) (by kernel_rfl) ?_
                refine T.pass (by kernel_rfl) (by kernel_rfl) ?_
                refine T.pass (by kernel_rfl) (by kernel_rfl) ?_
                refine T.pure (.bool true) (by kernel_rfl) (fun _ => by kernel_rfl) ?_
                refine T.pure (.bool true) (by kernel_rfl) (fun _ => by kernel_rfl) ?_
                refine T.pass (by kernel_rfl) (by kernel_rfl) ?_
                refine T.pass (by kernel_rfl) (by kernel_rfl) ?_
                refine T.pass (by kernel_rfl) (by kernel_rfl) ?_
                refine T.pass (by kernel_rfl) (by kernel_rfl) ?_
                refine T.pass (by kernel_rfl) (by kernel_rfl) ?_
                refine T.pure (.bool true) (by kernel_rfl) (fun _ => by kernel_rfl) ?_
                refine T.nil ?_
                cases hX6
                exact fun a w' hf hh => Exists.intro V15 (And.intro (View.le_refl _) (And.intro (((((((((((((Fr.nil hf).pick hf 146 rfl).pick hf 56 rfl).pick hf 55 rfl).pick hf 54 rfl).pick hf 15 rfl).pick hf 14 rfl).pick hf 12 rfl).pick hf 11 rfl).pick hf 8 rfl).pick hf 4 rfl).pick hf 2 rfl).pick hf 1 rfl) (hh.sub (.cons_cons _ (.cons_cons _ (.cons_cons _ List.Sublist.slnil))))))
              ·
               rintro a w' ⟨V16, hV16, hf, hh⟩
               refine (?_ : T 231 w V16 [box b3 36 ((.slice A16 r8.1.run.length c16) :: (DA16.cells r8.1.roles ++ (DA16.cells r8.1.fed))), box b2 36 ((.slice A15 z19.length c15) :: (DA16.cells z20 ++ (DA16.cells z21))), box b1 42 [.int .i64 p3.pfs, .int .i64 p3.obj, .int .i64 p3.off]] [(1, .slice A2 p1.length c2), (2, .slice A3 p2.length c3), (4, .string p4), (8, .pointer (some ⟨b1, 0, none⟩)), (11, .pointer (some ⟨b2, 0, none⟩)), (12, .pointer (some ⟨b3, 0, none⟩)), (14, .int .i64 z13), (15, .int .i64 z13), (54, .slice A1 p0.length c1), (55, .int .i64 (p0.length : Int)), (56, .int .i64 x9), (146, .bool z22)] _) a w' hf hh
               clear hf hh
               refine T.cond z22 (by kernel_rfl) (by kernel_rfl) (fun hc10 => ?_) (fun hc10 => ?_)
               ·
                rw [hc10, cond_true] at hX1
                refine T.seq ?_
                refine T.region ?_
                refine T.pure (.bool false) (by kernel_rfl) (fun _ => by kernel_rfl) ?_
                refine T.nil ?_
                cases hX1
                try dsimp only at hY1
                cases hY1
                cases (hr4 _ rfl)
                try dsimp only at hF
                cases hF
                refine T.ret rfl ?_
                exact T.ret1 rfl (ResIs.tmp rfl) fun w' hh => ⟨_, rfl, hh.below, (show _ from rfl)⟩
               ·
                rw [hc10, cond_false] at hX1
                refine T.skip_code ?_
                refine T.region ?_
                refine T.pure (.int .i64 z13) (by kernel_rfl) (fun _ => by kernel_rfl) ?_
                refine T.pure (.int .i64 (IntKind.i64.wrap (z13 + 1))) (by kernel_rfl) (fun _ => by kernel_rfl) ?_
                refine T.pure (.int .i64 (IntKind.i64.wrap (z13 + 1))) (by kernel_rfl) (fun _ => by kernel_rfl) ?_
                refine T.nil ?_
                cases hX1
                exact fun a w' hf hh => Exists.intro r8.1.run (Exists.intro r8.1.roles (Exists.intro r8.1.fed (Exists.intro z19 (Exists.intro z20 (Exists.intro z21 (Exists.intro (IntKind.i64.wrap (z13 + 1)) (Exists.intro z13 (And.intro rfl (Exists.intro A16 (Exists.intro c16 (Exists.intro A15 (Exists.intro c15 (Exists.intro V16 (And.intro (View.le_trans (View.le_trans (View.le_trans (View.le_trans (View.le_trans (View.le_trans (View.le_trans hV7 hV9) hV10) hV12) hV13) hV14) hV15) hV16) (And.intro (SlOk.mono hs16 (made_mono (View.le_trans hV15 hV16))) (And.intro (SlOk.mono hs15 (made_mono (View.le_trans (View.le_trans (View.le_trans hV13 hV14) hV15) hV16))) (And.intro ((((((((((((Fr.nil hf).pick hf 56 rfl).pick hf 55 rfl).pick hf 54 rfl).pick hf 15 rfl).pick hf 14 rfl).pick hf 12 rfl).pick hf 11 rfl).pick hf 8 rfl).pick hf 4 rfl).pick hf 2 rfl).pick hf 1 rfl) (hh.sub (.cons_cons _ (.cons_cons _ (.cons_cons _ List.Sublist.slnil)))))))))))))))))))))
      ·
       rintro a w' ⟨z5, z6, z7, z8, z9, z10, z11, z12, rfl, A10, c10, A11, c11, V6, hV6, hs10, hs11, hf, hh⟩
       try dsimp only at hY1
       refine (?_ : T 231 w V6 [box b3 36 ((.slice A10 z5.length c10) :: (DA16.cells z6 ++ (DA16.cells z7))), box b2 36 ((.slice A11 z8.length c11) :: (DA16.cells z9 ++ (DA16.cells z10))), box b1 42 [.int .i64 p3.pfs, .int .i64 p3.obj, .int .i64 p3.off]] [(1, .slice A2 p1.length c2), (2, .slice A3 p2.length c3), (4, .string p4), (8, .pointer (some ⟨b1, 0, none⟩)), (11, .pointer (some ⟨b2, 0, none⟩)), (12, .pointer (some ⟨b3, 0, none⟩)), (14, .int .i64 z11), (15, .int .i64 z12), (54, .slice A1 p0.length c1), (55, .int .i64 (p0.length : Int)), (56, .int .i64 x9)] _) a w' hf hh
       clear hf hh
       refine T.region ?_
       refine T.pure (.int .i64 (IntKind.i64.wrap (x9 + 1))) (by kernel_rfl) (fun _ => by kernel_rfl) ?_
       refine T.pure (.int .i64 (IntKind.i64.wrap (x9 + 1))) (by kernel_rfl) (fun _ => by kernel_rfl) ?_
       refine T.nil ?_
       cases hY1
       exact fun a w' hf hh => Exists.intro (z5, z6, z7, z8, z9, z10, z11, z12, IntKind.i64.wrap (x9 + 1)) (And.intro rfl (Exists.intro z5 (Exists.intro z6 (Exists.intro z7 (Exists.intro z8 (Exists.intro z9 (Exists.intro z10 (Exists.intro z11 (Exists.intro z12 (Exists.intro (IntKind.i64.wrap (x9 + 1)) (And.intro rfl (Exists.intro A10 (Exists.intro c10 (Exists.intro A11 (Exists.intro c11 (Exists.intro V6 (And.intro (View.le_trans hV4 hV6) (And.intro (SlOk.mono hs10 (made_mono (View.le_refl _))) (And.intro (SlOk.mono hs11 (made_mono (View.le_refl _))) (And.intro ((((((((((((Fr.nil hf).pick hf 56 rfl).pick hf 55 rfl).pick hf 54 rfl).pick hf 15 rfl).pick hf 14 rfl).pick hf 12 rfl).pick hf 11 rfl).pick hf 8 rfl).pick hf 4 rfl).pick hf 2 rfl).pick hf 1 rfl) (hh.sub (.cons_cons _ (.cons_cons _ (.cons_cons _ List.Sublist.slnil))))))))))))))))))))))))
     ·
      rw [hc2, cond_false] at hY1
      refine T.exit ?_
      cases hY1
      cases (hr4 _ rfl)
      exact fun a w' hf hh => Exists.intro x1 (Exists.intro x2 (Exists.intro x3 (Exists.intro x7 (And.intro rfl (Exists.intro A7 (Exists.intro c7 (Exists.intro V4 (And.intro hV4 (And.intro (SlOk.mono hs7 (made_mono (View.le_refl _))) (And.intro (((((Fr.nil hf).pick hf 14 rfl).pick hf 12 rfl).pick hf 8 rfl).pick hf 4 rfl) (hh.sub (.cons_cons _ (.cons _ (.cons_cons _ List.Sublist.slnil))))))))))))))
   ·
    rintro a w' ⟨z1, z2, z3, z4, rfl, A9, c9, V5, hV5, hs9, hf, hh⟩
    try dsimp only at hF
    refine (?_ : T 231 w V5 [box b3 36 ((.slice A9 z1.length c9) :: (DA16.cells z2 ++ (DA16.cells z3))), box b1 42 [.int .i64 p3.pfs, .int .i64 p3.obj, .int .i64 p3.off]] [(4, .string p4), (8, .pointer (some ⟨b1, 0, none⟩)), (12, .pointer (some ⟨b3, 0, none⟩)), (14, .int .i64 z4)] _) a w' hf hh
    clear hf hh
    refine T.seq ?_
    refine T.region ?_
    refine T.look (.agg (List.toArray ((.slice A9 z1.length c9) :: (DA16.cells z2 ++ (DA16.cells z3))))) (by kernel_rfl) (fun w' hh => exec_loadN (cs := ((.slice A9 z1.length c9) :: (DA16.cells z2 ++ (DA16.cells z3)))) rfl rfl (by kernel_rfl) (by kernel_rfl) (fun j u hj => (hh.box_at (i := 0) (cs := ((.slice A9 z1.length c9) :: (DA16.cells z2 ++ (DA16.cells z3)))) (by rfl) 0 j).trans (seg_at (n := 33) (by rfl) hj))) ?_
    obtain ⟨r11, hb14, hF⟩ := Option.bind_eq_some_iff.1 hF
    refine T.step (W1.call (vT2 (vAg eBook) (vSc eInt)) r11 24 #[.agg (List.toArray ((.slice A9 z1.length c9) :: (DA16.cells z2 ++ (DA16.cells z3)))), .int .i64 1] (by kernel_rfl) (fun _ => by kernel_rfl) (fun w' hh => realm_Up_l F (DBook.mk z1 z2 z3) 1 r11 hb14 w' A9 c9 (SlOk.mono (SlOk.mono hs9 (View.le_trans (made_le _ _) (View.le_refl _))) hh.view)) ?_)
    intro u V18 hV18 hu
    obtain ⟨u11, u12, rfl, hu11, hu12⟩ := vT2_elim hu
    obtain ⟨cs7, rfl, hr8⟩ := vagg_elim hu11
    obtain ⟨A18, c18, rfl, hs18⟩ := hr8
    obtain rfl := sureInt _ _ _ hu12
    refine T.pure (.tuple #[.agg (List.toArray ((.slice A18 r11.1.run.length c18) :: (DA16.cells r11.1.roles ++ (DA16.cells r11.1.fed)))), .int .i64 r11.2]) (by kernel_rfl) (fun _ => by kernel_rfl) ?_
    refine T.pure (.agg (List.toArray ((.slice A18 r11.1.run.length c18) :: (DA16.cells r11.1.roles ++ (DA16.cells r11.1.fed))))) (by kernel_rfl) (fun _ => by kernel_rfl) ?_
    refine T.pure (.int .i64 r11.2) (by kernel_rfl) (fun _ => by kernel_rfl) ?_
    refine T.step (W1.new 36 ((.slice none 0 0) :: (DA16.cells (DA16.mk 0 0 0 0 0 0 0 0 0 0 0 0 0 0 0 0) ++ (DA16.cells (DA16.mk 0 0 0 0 0 0 0 0 0 0 0 0 0 0 0 0)))) (fun b => .pointer (some ⟨b, 0, none⟩)) (by kernel_rfl) (fun _ => by kernel_rfl) (fun b6 => ?_))
    refine T.step (W1.store 0 ((.slice A18 r11.1.run.length c18) :: (DA16.cells r11.1.roles ++ (DA16.cells r11.1.fed))) [box b6 36 ((.slice A18 r11.1.run.length c18) :: (DA16.cells r11.1.roles ++ (DA16.cells r11.1.fed))), box b3 36 ((.slice A9 z1.length c9) :: (DA16.cells z2 ++ (DA16.cells z3))), box b1 42 [.int .i64 p3.pfs, .int .i64 p3.obj, .int .i64 p3.off]] (by rfl) rfl (by kernel_rfl) (fun w' hw => exec_store (vs := ((.slice A18 r11.1.run.length c18) :: (DA16.cells r11.1.roles ++ (DA16.cells r11.1.fed)))) rfl rfl rfl rfl (by kernel_rfl) (one_of rfl) (Nat.le_of_ble_eq_true (by rfl)) rfl hw) ?_)
    refine T.pure (.int .i64 r11.2) (by kernel_rfl) (fun _ => by kernel_rfl) ?_
    refine T.nil ?_
    refine T.seq ?_
    obtain ⟨z23, hX7, hF⟩ := Option.bind_eq_some_iff.1 hF
    refine T.cut (fun a w' => ∃ (V19 : View), View.le V18 V19 ∧ Fr 231 [(4, .string p4), (8, .pointer (some ⟨b1, 0, none⟩)), (12, .pointer (some ⟨b3, 0, none⟩)), (14, .int .i64 z4), (23, .pointer (some ⟨b6, 0, none⟩)), (170, .bool z23)] a ∧ Hp w V19 [box b6 36 ((.slice A18 r11.1.run.length c18) :: (DA16.cells r11.1.roles ++ (DA16.cells r11.1.fed))), box b3 36 ((.slice A9 z1.length c9) :: (DA16.cells z2 ++ (DA16.cells z3))), box b1 42 [.int .i64 p3.pfs, .int .i64 p3.obj, .int .i64 p3.off]] w') ?_ ?_
    ·
     refine T.region ?_
     refine T.pure (.int .i64 r11.2) (by kernel_rfl) (fun _ => by kernel_rfl) ?_
     refine T.pure (.bool (r11.2 != 0)) (by kernel_rfl) (fun _ => by kernel_rfl) ?_
     refine T.pure (.bool (r11.2 != 0)) (by kernel_rfl) (fun _ => by kernel_rfl) ?_
     cases hg5 : (r11.2 != 0)
     ·
      skip
      rw [hg5, cond_false] at hX7
      refine T.pure (.pointer (some ⟨b6, 1, none⟩)) (by kernel_rfl) (fun _ => by kernel_rfl) ?_
      refine T.pure (.pointer (some ⟨b6, 2, none⟩)) (by kernel_rfl) (fun _ => by kernel_rfl) ?_
      refine T.look (.int .i64 r11.1.roles.x1) (by kernel_rfl) (fun w' hh => exec_load1 rfl rfl (by kernel_rfl) (hh.cellBox (i := 0) (by rfl) 2)) ?_
      refine T.pure (.bool (r11.1.roles.x1 != 1)) (by kernel_rfl) (fun _ => by kernel_rfl) ?_
      refine T.pure (.bool (r11.1.roles.x1 != 1)) (by kernel_rfl) (fun _ => by kernel_rfl) ?_
      refine T.pure (.bool (r11.1.roles.x1 != 1)) (by kernel_rfl) (fun _ => by kernel_rfl) ?_
      cases hg6 : (r11.1.roles.x1 != 1)
      ·
       skip
       rw [hg6, cond_false] at hX7
       refine T.pure (.pointer (some ⟨b6, 0, none⟩)) (by kernel_rfl) (fun _ => by kernel_rfl) ?_
       refine T.look (.slice A18 r11.1.run.length c18) (by kernel_rfl) (fun w' hh => exec_load1 rfl rfl (by kernel_rfl) (hh.cellBox (i := 0) (by rfl) 0)) ?_
       refine T.pure (.pointer (some ⟨b3, 0, none⟩)) (by kernel_rfl) (fun _ => by kernel_rfl) ?_
       refine T.look (.slice A9 z1.length c9) (by kernel_rfl) (fun w' hh => exec_load1 rfl rfl (by kernel_rfl) (hh.cellBox (i := 1) (by rfl) 0)) ?_
       obtain ⟨r12, hb15, hX7⟩ := Option.bind_eq_some_iff.1 hX7
       refine T.step (W1.call (vSc eBool) r12 29 #[.slice A18 r11.1.run.length c18, .slice A9 z1.length c9] (by kernel_rfl) (fun _ => by kernel_rfl) (fun w' hh => slices_Equal_Elem_l F r11.1.run z1 r12 hb15 w' A18 c18 (SlOk.mono (SlOk.mono hs18 (View.le_trans (made_le _ _) (View.le_refl _))) hh.view) A9 c9 (SlOk.mono (SlOk.mono hs9 (View.le_trans (made_le _ _) hV18)) hh.view)) ?_)
       intro u V20 hV20 hu
       obtain rfl := sureBool _ _ _ hu
       refine T.pure (.bool (!r12)) (by kernel_rfl) (fun _ => by kernel_rfl) ?_
       refine T.pure (.bool (!r12)) (by kernel_rfl) (fun _ => by kernel_rfl) ?_
       refine T.nil ?_
       cases hX7
       exact fun a w' hf hh => Exists.intro V20 (And.intro hV20 (And.intro (((((((Fr.nil hf).pick hf 170 rfl).pick hf 23 rfl).pick hf 14 rfl).pick hf 12 rfl).pick hf 8 rfl).pick hf 4 rfl) (hh.sub (.cons_cons _ (.cons_cons _ (.cons_cons _ List.Sublist.slnil))))))
      ·
       skip
       rw [hg6, cond_true] at hX7
       refine T.pass (by kernel_rfl) (by kernel_rfl) ?_
       refine T.pass (by kernel_rfl) (by kernel_rfl) ?_
       refine T.pass (by kernel_rfl) (by kernel_rfl) ?_
       refine T.pass (by kernel_rfl) (by kernel_rfl) ?_
       refine T.pass (by kernel_rfl) (by kernel_rfl) ?_
       refine T.pass (by kernel_rfl) (by kernel_rfl) ?_
       refine T.pure (.bool true) (by kernel_rfl) (fun _ => by kernel_rfl) ?_
       refine T.nil ?_
       cases hX7
       exact fun a w' hf hh => Exists.intro V18 (And.intro (View.le_refl _) (And.intro (((((((Fr.nil hf).pick hf 170 rfl).pick hf 23 rfl).pick hf 14 rfl).pick hf 12 rfl).pick hf 8 rfl).pick hf 4 rfl) (hh.sub (.cons_cons _ (.cons_cons _ (.cons_cons _ List.Sublist.slnil))))))
     ·
      skip
      rw [hg5, cond_true] at hX7
      refine T.pass (by kernel_rfl) (by kernel_rfl) ?_
      refine T.pass (by kernel_rfl) (by kernel_rfl) ?_
      refine T.pass (by kernel_rfl) (by kernel_rfl) ?_
      refine T.pass (by kernel_rfl) (by kernel_rfl) ?_
      refine T.pure (.bool true) (by kernel_rfl) (fun _ => by kernel_rfl) ?_
      refine T.pure (.bool true) (by kernel_rfl) (fun _ => by kernel_rfl) ?_
      refine T.pass (by kernel_rfl) (by kernel_rfl) ?_
      refine T.pass (by kernel_rfl) (by kernel_rfl) ?_
      refine T.pass (by kernel_rfl) (by kernel_rfl) ?_
      refine T.pass (by kernel_rfl) (by kernel_rfl) ?_
      refine T.pass (by kernel_rfl) (by kernel_rfl) ?_
      refine T.pass (by kernel_rfl) (by kernel_rfl) ?_
      refine T.pure (.bool true) (by kernel_rfl) (fun _ => by kernel_rfl) ?_
      refine T.nil ?_
      cases hX7
      exact fun a w' hf hh => Exists.intro V18 (And.intro (View.le_refl _) (And.intro (((((((Fr.nil hf).pick hf 170 rfl).pick hf 23 rfl).pick hf 14 rfl).pick hf 12 rfl).pick hf 8 rfl).pick hf 4 rfl) (hh.sub (.cons_cons _ (.cons_cons _ (.cons_cons _ List.Sublist.slnil))))))
    ·
     rintro a w' ⟨V19, hV19, hf, hh⟩
     refine (?_ : T 231 w V19 [box b6 36 ((.slice A18 r11.1.run.length c18) :: (DA16.cells r11.1.roles ++ (DA16.cells r11.1.fed))), box b3 36 ((.slice A9 z1.length c9) :: (DA16.cells z2 ++ (DA16.cells z3))), box b1 42 [.int .i64 p3.pfs, .int .i64 p3.obj, .int .i64 p3.off]] [(4, .string p4), (8, .pointer (some ⟨b1, 0, none⟩)), (12, .pointer (some ⟨b3, 0, none⟩)), (14, .int .i64 z4), (23, .pointer (some ⟨b6, 0, none⟩)), (170, .bool z23)] _) a w' hf hh
     clear hf hh
     refine T.cond z23 (by kernel_rfl) (by kernel_rfl) (fun hc11 => ?_) (fun hc11 => ?_)
     ·
      rw [hc11, cond_true] at hF
      refine T.seq ?_
      refine T.region ?_
      refine T.pure (.bool false) (by kernel_rfl) (fun _ => by kernel_rfl) ?_
      refine T.nil ?_
      cases hF
      refine T.ret rfl ?_
      exact T.ret1 rfl (ResIs.tmp rfl) fun w' hh => ⟨_, rfl, hh.below, (show _ from rfl)⟩
     ·
      rw [hc11, cond_false] at hF
      refine T.skip_code ?_
      refine T.seq ?_
      refine T.region ?_
      refine T.pure (.pointer (some ⟨b1, 0, none⟩)) (by kernel_rfl) (fun _ => by kernel_rfl) ?_
      refine T.step (W1.store 2 [.int .i64 1, .int .i64 p3.obj, .int .i64 p3.off] [box b6 36 ((.slice A18 r11.1.run.length c18) :: (DA16.cells r11.1.roles ++ (DA16.cells r11.1.fed))), box b3 36 ((.slice A9 z1.length c9) :: (DA16.cells z2 ++ (DA16.cells z3))), box b1 42 [.int .i64 1, .int .i64 p3.obj, .int .i64 p3.off]] (by rfl) rfl (by kernel_rfl) (fun w' hw => exec_store (vs := [.int .i64 1]) rfl rfl rfl rfl (by kernel_rfl) (one_of rfl) (by simp) rfl hw) ?_)
      refine T.nil ?_
      refine T.seq ?_
      refine T.region ?_
      refine T.look (.agg (List.toArray ((.slice A18 r11.1.run.length c18) :: (DA16.cells r11.1.roles ++ (DA16.cells r11.1.fed))))) (by kernel_rfl) (fun w' hh => exec_loadN (cs := ((.slice A18 r11.1.run.length c18) :: (DA16.cells r11.1.roles ++ (DA16.cells r11.1.fed)))) rfl rfl (by kernel_rfl) (by kernel_rfl) (fun j u hj => (hh.box_at (i := 0) (cs := ((.slice A18 r11.1.run.length c18) :: (DA16.cells r11.1.roles ++ (DA16.cells r11.1.fed)))) (by rfl) 0 j).trans (seg_at (n := 33) (by rfl) hj))) ?_
      refine T.look (.agg #[.int .i64 1, .int .i64 p3.obj, .int .i64 p3.off]) (by kernel_rfl) (fun w' hh => exec_loadN (cs := [.int .i64 1, .int .i64 p3.obj, .int .i64 p3.off]) rfl rfl (by kernel_rfl) (by kernel_rfl) (fun j u hj => (hh.box_at (i := 2) (cs := [.int .i64 1, .int .i64 p3.obj, .int .i64 p3.off]) (by rfl) 0 j).trans (seg_at (n := 3) (by rfl) hj))) ?_
      refine T.pure (.string p4) (by kernel_rfl) (fun _ => by kernel_rfl) ?_
      refine T.pure (.int .i64 z4) (by kernel_rfl) (fun _ => by kernel_rfl) ?_
      obtain ⟨r13, hb16, hF⟩ := Option.bind_eq_some_iff.1 hF
      refine T.step (W1.call (vT2 (vAg eBook) (vSc eInt)) r13 16 #[.agg (List.toArray ((.slice A18 r11.1.run.length c18) :: (DA16.cells r11.1.roles ++ (DA16.cells r11.1.fed)))), .agg #[.int .i64 1, .int .i64 p3.obj, .int .i64 p3.off], .string p4, .int .i64 z4] (by kernel_rfl) (fun _ => by kernel_rfl) (fun w' hh => realm_Put_l F r11.1 (DKey.mk 1 p3.obj p3.off) p4 z4 r13 hb16 w' A18 c18 (SlOk.mono (SlOk.mono hs18 (View.le_trans (made_le _ _) hV19)) hh.view)) ?_)
      intro u V21 hV21 hu
      obtain ⟨u13, u14, rfl, hu13, hu14⟩ := vT2_elim hu
      obtain ⟨cs8, rfl, hr9⟩ := vagg_elim hu13
      obtain ⟨A19, c19, rfl, hs19⟩ := hr9
      obtain rfl := sureInt _ _ _ hu14
      refine T.pure (.tuple #[.agg (List.toArray ((.slice A19 r13.1.run.length c19) :: (DA16.cells r13.1.roles ++ (DA16.cells r13.1.fed)))), .int .i64 r13.2]) (by kernel_rfl) (fun _ => by kernel_rfl) ?_
      refine T.pure (.agg (List.toArray ((.slice A19 r13.1.run.length c19) :: (DA16.cells r13.1.roles ++ (DA16.cells r13.1.fed))))) (by kernel_rfl) (fun _ => by kernel_rfl) ?_
      refine T.pure (.int .i64 r13.2) (by kernel_rfl) (fun _ => by kernel_rfl) ?_
      refine T.pure (.int .i64 r13.2) (by kernel_rfl) (fun _ => by kernel_rfl) ?_
      refine T.nil ?_
      refine T.seq ?_
      refine T.seq ?_
      refine T.region ?_
      refine T.look (.agg #[.int .i64 1, .int .i64 p3.obj, .int .i64 p3.off]) (by kernel_rfl) (fun w' hh => exec_loadN (cs := [.int .i64 1, .int .i64 p3.obj, .int .i64 p3.off]) rfl rfl (by kernel_rfl) (by kernel_rfl) (fun j u hj => (hh.box_at (i := 2) (cs := [.int .i64 1, .int .i64 p3.obj, .int .i64 p3.off]) (by rfl) 0 j).trans (seg_at (n := 3) (by rfl) hj))) ?_
      obtain ⟨r14, hb17, hF⟩ := Option.bind_eq_some_iff.1 hF
      refine T.step (W1.call (vSc eInt) r14 36 #[.agg #[.int .i64 1, .int .i64 p3.obj, .int .i64 p3.off]] (by kernel_rfl) (fun _ => by kernel_rfl) (fun w' hh => key_Check_l (DKey.mk 1 p3.obj p3.off) r14 hb17 w' ) ?_)
      intro u V22 hV22 hu
      obtain rfl := sureInt _ _ _ hu
      refine T.pure (.int .i64 r14) (by kernel_rfl) (fun _ => by kernel_rfl) ?_
      refine T.nil ?_
      refine T.seq ?_
      refine T.region ?_
      refine T.pure (.int .i64 r14) (by kernel_rfl) (fun _ => by kernel_rfl) ?_
      refine T.pure (.bool (r14 != 0)) (by kernel_rfl) (fun _ => by kernel_rfl) ?_
      refine T.nil ?_
      refine T.cond (r14 != 0) (by kernel_rfl) (by kernel_rfl) (fun hc12 => ?_) (fun hc12 => ?_)
      ·
       rw [hc12, cond_true] at hF
       refine T.seq ?_
       refine T.region ?_
       refine T.pure (.int .i64 r13.2) (by kernel_rfl) (fun _ => by kernel_rfl) ?_
       refine T.pure (.int .i64 r14) (by kernel_rfl) (fun _ => by kernel_rfl) ?_
       refine T.pure (.bool (r13.2 == r14)) (by kernel_rfl) (fun _ => by kernel_rfl) ?_
       refine T.pure (.bool (r13.2 == r14)) (by kernel_rfl) (fun _ => by kernel_rfl) ?_
       refine T.nil ?_
       cases hF
       refine T.ret rfl ?_
       exact T.ret1 rfl (ResIs.tmp rfl) fun w' hh => ⟨_, rfl, hh.below, (show _ from rfl)⟩
      ·
       rw [hc12, cond_false] at hF
       refine T.skip_code ?_
       refine T.seq ?_
       refine T.region ?_
       refine T.look (.agg (List.toArray ((.slice A18 r11.1.run.length c18) :: (DA16.cells r11.1.roles ++ (DA16.cells r11.1.fed))))) (by kernel_rfl) (fun w' hh => exec_loadN (cs := ((.slice A18 r11.1.run.length c18) :: (DA16.cells r11.1.roles ++ (DA16.cells r11.1.fed)))) rfl rfl (by kernel_rfl) (by kernel_rfl) (fun j u hj => (hh.box_at (i := 0) (cs := ((.slice A18 r11.1.run.length c18) :: (DA16.cells r11.1.roles ++ (DA16.cells r11.1.fed)))) (by rfl) 0 j).trans (seg_at (n := 33) (by rfl) hj))) ?_
       obtain ⟨r15, hb18, hF⟩ := Option.bind_eq_some_iff.1 hF
       refine T.step (W1.call (vT2 (vAg eBook) (vSc eInt)) r15 22 #[.agg (List.toArray ((.slice A18 r11.1.run.length c18) :: (DA16.cells r11.1.roles ++ (DA16.cells r11.1.fed)))), .int .i64 1] (by kernel_rfl) (fun _ => by kernel_rfl) (fun w' hh => realm_Down_l F r11.1 1 r15 hb18 w' A18 c18 (SlOk.mono (SlOk.mono hs18 (View.le_trans (made_le _ _) (View.le_trans (View.le_trans hV19 hV21) hV22))) hh.view)) ?_)
       intro u V23 hV23 hu
       obtain ⟨u15, u16, rfl, hu15, hu16⟩ := vT2_elim hu
       obtain ⟨cs9, rfl, hr10⟩ := vagg_elim hu15
       obtain ⟨A20, c20, rfl, hs20⟩ := hr10
       obtain rfl := sureInt _ _ _ hu16
       refine T.pure (.tuple #[.agg (List.toArray ((.slice A20 r15.1.run.length c20) :: (DA16.cells r15.1.roles ++ (DA16.cells r15.1.fed)))), .int .i64 r15.2]) (by kernel_rfl) (fun _ => by kernel_rfl) ?_
       refine T.pure (.agg (List.toArray ((.slice A20 r15.1.run.length c20) :: (DA16.cells r15.1.roles ++ (DA16.cells r15.1.fed))))) (by kernel_rfl) (fun _ => by kernel_rfl) ?_
       refine T.pure (.int .i64 r15.2) (by kernel_rfl) (fun _ => by kernel_rfl) ?_
       refine T.step (W1.new 36 ((.slice none 0 0) :: (DA16.cells (DA16.mk 0 0 0 0 0 0 0 0 0 0 0 0 0 0 0 0) ++ (DA16.cells (DA16.mk 0 0 0 0 0 0 0 0 0 0 0 0 0 0 0 0)))) (fun b => .pointer (some ⟨b, 0, none⟩)) (by kernel_rfl) (fun _ => by kernel_rfl) (fun b7 => ?_))
       refine T.step (W1.store 0 ((.slice A20 r15.1.run.length c20) :: (DA16.cells r15.1.roles ++ (DA16.cells r15.1.fed))) [box b7 36 ((.slice A20 r15.1.run.length c20) :: (DA16.cells r15.1.roles ++ (DA16.cells r15.1.fed))), box b6 36 ((.slice A18 r11.1.run.length c18) :: (DA16.cells r11.1.roles ++ (DA16.cells r11.1.fed))), box b3 36 ((.slice A9 z1.length c9) :: (DA16.cells z2 ++ (DA16.cells z3))), box b1 42 [.int .i64 1, .int .i64 p3.obj, .int .i64 p3.off]] (by rfl) rfl (by kernel_rfl) (fun w' hw => exec_store (vs := ((.slice A20 r15.1.run.length c20) :: (DA16.cells r15.1.roles ++ (DA16.cells r15.1.fed)))) rfl rfl rfl rfl (by kernel_rfl) (one_of rfl) (Nat.le_of_ble_eq_true (by rfl)) rfl hw) ?_)
       refine T.pure (.int .i64 r15.2) (by kernel_rfl) (fun _ => by kernel_rfl) ?_
       refine T.nil ?_
       refine T.seq ?_
       refine T.region ?_
       refine T.pure (.pointer (some ⟨b6, 0, none⟩)) (by kernel_rfl) (fun _ => by kernel_rfl) ?_
       refine T.look (.slice A18 r11.1.run.length c18) (by kernel_rfl) (fun w' hh => exec_load1 rfl rfl (by kernel_rfl) (hh.cellBox (i := 1) (by rfl) 0)) ?_
       obtain ⟨r16, hb19, hF⟩ := Option.bind_eq_some_iff.1 hF
       refine T.step (W1.call (vT2 (vSc eInt) (vSc eInt)) r16 37 #[.slice A18 r11.1.run.length c18] (by kernel_rfl) (fun _ => by kernel_rfl) (fun w' hh => run_Last_l F r11.1.run r16 hb19 w' A18 c18 (SlOk.mono (SlOk.mono hs18 (View.le_trans (made_le _ _) (View.le_trans (View.le_trans (View.le_trans hV19 hV21) hV22) hV23))) hh.view)) ?_)
       intro u V24 hV24 hu
       obtain rfl := (Sure.t2 sureInt sureInt) _ _ _ hu
       refine T.pure (.tuple #[.int .i64 r16.1, .int .i64 r16.2]) (by kernel_rfl) (fun _ => by kernel_rfl) ?_
       refine T.pure (.int .i64 r16.1) (by kernel_rfl) (fun _ => by kernel_rfl) ?_
       refine T.pure (.int .i64 r16.2) (by kernel_rfl) (fun _ => by kernel_rfl) ?_
       refine T.pure (.int .i64 r16.1) (by kernel_rfl) (fun _ => by kernel_rfl) ?_
       refine T.pure (.int .i64 r16.2) (by kernel_rfl) (fun _ => by kernel_rfl) ?_
       refine T.nil ?_
       obtain ⟨z24, hX8, hF⟩ := Option.bind_eq_some_iff.1 hF
       refine T.cut (fun a w' => ∃ (V25 : View), View.le V24 V25 ∧ Fr 231 [(10, .bool z24)] a ∧ Hp w V25 [] w') ?_ ?_
       ·
        refine T.region ?_
        refine T.pure (.int .i64 r13.2) (by kernel_rfl) (fun _ => by kernel_rfl) ?_
        refine T.pure (.bool (r13.2 == 0)) (by kernel_rfl) (fun _ => by kernel_rfl) ?_
        refine T.pure (.bool (r13.2 == 0)) (by kernel_rfl) (fun _ => by kernel_rfl) ?_
        cases hg7 : (r13.2 == 0)
        ·
         skip
         rw [hg7, cond_false] at hX8
         refine T.pure (.string p4) (by kernel_rfl) (fun _ => by kernel_rfl) ?_
         refine T.pure (.int .i64 (p4.size : Int)) (by kernel_rfl) (fun _ => by kernel_rfl) ?_
         refine T.pure (.bool (decide ((40 : Int) < (p4.size : Int)))) (by kernel_rfl) (fun _ => by kernel_rfl) ?_
         refine T.pure (.bool (decide ((40 : Int) < (p4.size : Int)))) (by kernel_rfl) (fun _ => by kernel_rfl) ?_
         refine T.pure (.bool (decide ((40 : Int) < (p4.size : Int)))) (by kernel_rfl) (fun _ => by kernel_rfl) ?_
         cases hg8 : decide ((40 : Int) < (p4.size : Int))
         ·
          skip
          rw [hg8, cond_false] at hX8
          refine T.pure (.int .i64 r13.2) (by kernel_rfl) (fun _ => by kernel_rfl) ?_
          refine T.pure (.bool (r13.2 == 8)) (by kernel_rfl) (fun _ => by kernel_rfl) ?_
          refine T.pure (.bool (r13.2 == 8)) (by kernel_rfl) (fun _ => by kernel_rfl) ?_
          refine T.pure (.bool (r13.2 == 8)) (by kernel_rfl) (fun _ => by kernel_rfl) ?_
          cases hg9 : (r13.2 == 8)
          ·
           skip
           rw [hg9, cond_false] at hX8
           refine T.pass (by kernel_rfl) (by kernel_rfl) ?_
           refine T.pass (by kernel_rfl) (by kernel_rfl) ?_
           refine T.pure (.bool false) (by kernel_rfl) (fun _ => by kernel_rfl) ?_
           refine T.pure (.bool false) (by kernel_rfl) (fun _ => by kernel_rfl) ?_
           refine T.pass (by kernel_rfl) (by kernel_rfl) ?_
           refine T.pass (by kernel_rfl) (by kernel_rfl) ?_
           refine T.pure (.bool false) (by kernel_rfl) (fun _ => by kernel_rfl) ?_
           refine T.pure (.bool false) (by kernel_rfl) (fun _ => by kernel_rfl) ?_
           refine T.pass (by kernel_rfl) (by kernel_rfl) ?_
           refine T.pass (by kernel_rfl) (by kernel_rfl) ?_
           refine T.pass (by kernel_rfl) (by kernel_rfl) ?_
           refine T.pass (by kernel_rfl) (by kernel_rfl) ?_
           refine T.pass (by kernel_rfl) (by kernel_rfl) ?_
           refine T.pure (.bool false) (by kernel_rfl) (fun _ => by kernel_rfl) ?_
           refine T.pure (.bool false) (by kernel_rfl) (fun _ => by kernel_rfl) ?_
           refine T.pass (by kernel_rfl) (by kernel_rfl) ?_
           refine T.pass (by kernel_rfl) (by kernel_rfl) ?_
           refine T.pass (by kernel_rfl) (by kernel_rfl) ?_
           refine T.pass (by kernel_rfl) (by kernel_rfl) ?_
           refine T.pass (by kernel_rfl) (by kernel_rfl) ?_
           refine T.pure (.bool false) (by kernel_rfl) (fun _ => by kernel_rfl) ?_
           refine T.pure (.bool false) (by kernel_rfl) (fun _ => by kernel_rfl) ?_
           refine T.nil ?_
           cases hX8
           exact fun a w' hf hh => Exists.intro V24 (And.intro (View.le_refl _) (And.intro ((Fr.nil hf).pick hf 10 rfl) (hh.sub (.cons _ (.cons _ (.cons _ (.cons _ List.Sublist.slnil)))))))
          ·
           skip
           rw [hg9, cond_true] at hX8
           refine T.pure (.int .i64 r15.2) (by kernel_rfl) (fun _ => by kernel_rfl) ?_
           refine T.pure (.bool (r15.2 == 0)) (by kernel_rfl) (fun _ => by kernel_rfl) ?_
           refine T.pure (.bool (r15.2 == 0)) (by kernel_rfl) (fun _ => by kernel_rfl) ?_
           refine T.pure (.bool (r15.2 == 0)) (by kernel_rfl) (fun _ => by kernel_rfl) ?_
           cases hg10 : (r15.2 == 0)
           ·
            skip
            rw [hg10, cond_false] at hX8
            refine T.pass (by kernel_rfl) (by kernel_rfl) ?_
            refine T.pass (by kernel_rfl) (by kernel_rfl) ?_
            refine T.pure (.bool false) (by kernel_rfl) (fun _ => by kernel_rfl) ?_
            refine T.pure (.bool false) (by kernel_rfl) (fun _ => by kernel_rfl) ?_
            refine T.pass (by kernel_rfl) (by kernel_rfl) ?_
            refine T.pass (by kernel_rfl) (by kernel_rfl) ?_
            refine T.pass (by kernel_rfl) (by kernel_rfl) ?_
            refine T.pass (by kernel_rfl) (by kernel_rfl) ?_
            refine T.pass (by kernel_rfl) (by kernel_rfl) ?_
            refine T.pure (.bool false) (by kernel_rfl) (fun _ => by kernel_rfl) ?_
            refine T.pure (.bool false) (by kernel_rfl) (fun _ => by kernel_rfl) ?_
            refine T.pass (by kernel_rfl) (by kernel_rfl) ?_
            refine T.pass (by kernel_rfl) (by kernel_rfl) ?_
            refine T.pass (by kernel_rfl) (by kernel_rfl) ?_
            refine T.pass (by kernel_rfl) (by kernel_rfl) ?_
            refine T.pass (by kernel_rfl) (by kernel_rfl) ?_
            refine T.pure (.bool false) (by kernel_rfl) (fun _ => by kernel_rfl) ?_
            refine T.pure (.bool false) (by kernel_rfl) (fun _ => by kernel_rfl) ?_
            refine T.nil ?_
            cases hX8
            exact fun a w' hf hh => Exists.intro V24 (And.intro (View.le_refl _) (And.intro ((Fr.nil hf).pick hf 10 rfl) (hh.sub (.cons _ (.cons _ (.cons _ (.cons _ List.Sublist.slnil)))))))
           ·
            skip
            rw [hg10, cond_true] at hX8
            refine T.pure (.int .i64 r16.2) (by kernel_rfl) (fun _ => by kernel_rfl) ?_
            refine T.pure (.bool (r16.2 == 0)) (by kernel_rfl) (fun _ => by kernel_rfl) ?_
            refine T.pure (.bool (r16.2 == 0)) (by kernel_rfl) (fun _ => by kernel_rfl) ?_
            refine T.pure (.bool (r16.2 == 0)) (by kernel_rfl) (fun _ => by kernel_rfl) ?_
            cases hg11 : (r16.2 == 0)
            ·
             skip
             rw [hg11, cond_false] at hX8
             refine T.pass (by kernel_rfl) (by kernel_rfl) ?_
             refine T.pass (by kernel_rfl) (by kernel_rfl) ?_
             refine T.pass (by kernel_rfl) (by kernel_rfl) ?_
             refine T.pass (by kernel_rfl) (by kernel_rfl) ?_
             refine T.pass (by kernel_rfl) (by kernel_rfl) ?_
             refine T.pure (.bool false) (by kernel_rfl) (fun _ => by kernel_rfl) ?_
             refine T.pure (.bool false) (by kernel_rfl) (fun _ => by kernel_rfl) ?_
             refine T.pass (by kernel_rfl) (by kernel_rfl) ?_
             refine T.pass (by kernel_rfl) (by kernel_rfl) ?_
             refine T.pass (by kernel_rfl) (by kernel_rfl) ?_
             refine T.pass (by kernel_rfl) (by kernel_rfl) ?_
             refine T.pass (by kernel_rfl) (by kernel_rfl) ?_
             refine T.pure (.bool false) (by kernel_rfl) (fun _ => by kernel_rfl) ?_
             refine T.pure (.bool false) (by kernel_rfl) (fun _ => by kernel_rfl) ?_
             refine T.nil ?_
             cases hX8
             exact fun a w' hf hh => Exists.intro V24 (And.intro (View.le_refl _) (And.intro ((Fr.nil hf).pick hf 10 rfl) (hh.sub (.cons _ (.cons _ (.cons _ (.cons _ List.Sublist.slnil)))))))
            ·
             skip
             rw [hg11, cond_true] at hX8
             refine T.pure (.pointer (some ⟨b7, 17, none⟩)) (by kernel_rfl) (fun _ => by kernel_rfl) ?_
             refine T.pure (.pointer (some ⟨b7, 18, none⟩)) (by kernel_rfl) (fun _ => by kernel_rfl) ?_
             refine T.look (.int .i64 r15.1.fed.x1) (by kernel_rfl) (fun w' hh => exec_load1 rfl rfl (by kernel_rfl) (hh.cellBox (i := 0) (by rfl) 18)) ?_
             refine T.pure (.int .i64 r16.1) (by kernel_rfl) (fun _ => by kernel_rfl) ?_
             refine T.pure (.bool (r15.1.fed.x1 == r16.1)) (by kernel_rfl) (fun _ => by kernel_rfl) ?_
             refine T.pure (.bool (r15.1.fed.x1 == r16.1)) (by kernel_rfl) (fun _ => by kernel_rfl) ?_
             refine T.pure (.bool (r15.1.fed.x1 == r16.1)) (by kernel_rfl) (fun _ => by kernel_rfl) ?_
             cases hg12 : (r15.1.fed.x1 == r16.1)
             ·
              skip
              rw [hg12, cond_false] at hX8
              refine T.pass (by kernel_rfl) (by kernel_rfl) ?_
              refine T.pass (by kernel_rfl) (by kernel_rfl) ?_
              refine T.pass (by kernel_rfl) (by kernel_rfl) ?_
              refine T.pass (by kernel_rfl) (by kernel_rfl) ?_
              refine T.pass (by kernel_rfl) (by kernel_rfl) ?_
              refine T.pure (.bool false) (by kernel_rfl) (fun _ => by kernel_rfl) ?_
              refine T.pure (.bool false) (by kernel_rfl) (fun _ => by kernel_rfl) ?_
              refine T.nil ?_
              cases hX8
              exact fun a w' hf hh => Exists.intro V24 (And.intro (View.le_refl _) (And.intro ((Fr.nil hf).pick hf 10 rfl) (hh.sub (.cons _ (.cons _ (.cons _ (.cons _ List.Sublist.slnil)))))))
             ·
              skip
              rw [hg12, cond_true] at hX8
              refine T.pure (.pointer (some ⟨b7, 0, none⟩)) (by kernel_rfl) (fun _ => by kernel_rfl) ?_
              refine T.look (.slice A20 r15.1.run.length c20) (by kernel_rfl) (fun w' hh => exec_load1 rfl rfl (by kernel_rfl) (hh.cellBox (i := 0) (by rfl) 0)) ?_
              refine T.pure (.pointer (some ⟨b3, 0, none⟩)) (by kernel_rfl) (fun _ => by kernel_rfl) ?_
              refine T.look (.slice A9 z1.length c9) (by kernel_rfl) (fun w' hh => exec_load1 rfl rfl (by kernel_rfl) (hh.cellBox (i := 2) (by rfl) 0)) ?_
              obtain ⟨r17, hb20, hX8⟩ := Option.bind_eq_some_iff.1 hX8
              refine T.step (W1.call (vSc eBool) r17 29 #[.slice A20 r15.1.run.length c20, .slice A9 z1.length c9] (by kernel_rfl) (fun _ => by kernel_rfl) (fun w' hh => slices_Equal_Elem_l F r15.1.run z1 r17 hb20 w' A20 c20 (SlOk.mono (SlOk.mono hs20 (View.le_trans (made_le _ _) hV24)) hh.view) A9 c9 (SlOk.mono (SlOk.mono hs9 (View.le_trans (made_le _ _) (View.le_trans (View.le_trans (View.le_trans (View.le_trans (View.le_trans hV18 hV19) hV21) hV22) hV23) hV24))) hh.view)) ?_)
              intro u V26 hV26 hu
              obtain rfl := sureBool _ _ _ hu
              refine T.pure (.bool r17) (by kernel_rfl) (fun _ => by kernel_rfl) ?_
              refine T.pure (.bool r17) (by kernel_rfl) (fun _ => by kernel_rfl) ?_
              refine T.nil ?_
              cases hX8
              exact fun a w' hf hh => Exists.intro V26 (And.intro hV26 (And.intro ((Fr.nil hf).pick hf 10 rfl) (hh.sub (.cons _ (.cons _ (.cons _ (.cons _ List.Sublist.slnil)))))))
         ·
          skip
          rw [hg8, cond_true] at hX8
          refine T.pass (by kernel_rfl) (by kernel_rfl) ?_
          refine T.pass (by kernel_rfl) (by kernel_rfl) ?_
          refine T.pure (.bool true) (by kernel_rfl) (fun _ => by kernel_rfl) ?_
          refine T.pure (.bool true) (by kernel_rfl) (fun _ => by kernel_rfl) ?_
          refine T.pure (.int .i64 r15.2) (by kernel_rfl) (fun _ => by kernel_rfl) ?_
          refine T.pure (.bool (r15.2 == 0)) (by kernel_rfl) (fun _ => by kernel_rfl) ?_
          refine T.pure (.bool (r15.2 == 0)) (by kernel_rfl) (fun _ => by kernel_rfl) ?_
          refine T.pure (.bool (r15.2 == 0)) (by kernel_rfl) (fun _ => by kernel_rfl) ?_
          cases hg13 : (r15.2 == 0)
          ·
           skip
           rw [hg13, cond_false] at hX8
           refine T.pass (by kernel_rfl) (by kernel_rfl) ?_
           refine T.pass (by kernel_rfl) (by kernel_rfl) ?_
           refine T.pure (.bool false) (by kernel_rfl) (fun _ => by kernel_rfl) ?_
           refine T.pure (.bool false) (by kernel_rfl) (fun _ => by kernel_rfl) ?_
           refine T.pass (by kernel_rfl) (by kernel_rfl) ?_
           refine T.pass (by kernel_rfl) (by kernel_rfl) ?_
           refine T.pass (by kernel_rfl) (by kernel_rfl) ?_
           refine T.pass (by kernel_rfl) (by kernel_rfl) ?_
           refine T.pass (by kernel_rfl) (by kernel_rfl) ?_
           refine T.pure (.bool false) (by kernel_rfl) (fun _ => by kernel_rfl) ?_
           refine T.pure (.bool false) (by kernel_rfl) (fun _ => by kernel_rfl) ?_
           refine T.pass (by kernel_rfl) (by kernel_rfl) ?_
           refine T.pass (by kernel_rfl) (by kernel_rfl) ?_
           refine T.pass (by kernel_rfl) (by kernel_rfl) ?_
           refine T.pass (by kernel_rfl) (by kernel_rfl) ?_
           refine T.pass (by kernel_rfl) (by kernel_rfl) ?_
           refine T.pure (.bool false) (by kernel_rfl) (fun _ => by kernel_rfl) ?_
           refine T.pure (.bool false) (by kernel_rfl) (fun _ => by kernel_rfl) ?_
           refine T.nil ?_
           cases hX8
           exact fun a w' hf hh => Exists.intro V24 (And.intro (View.le_refl _) (And.intro ((Fr.nil hf).pick hf 10 rfl) (hh.sub (.cons _ (.cons _ (.cons _ (.cons _ List.Sublist.slnil)))))))
          ·
           skip
           rw [hg13, cond_true] at hX8
           refine T.pure (.int .i64 r16.2) (by kernel_rfl) (fun _ => by kernel_rfl) ?_
           refine T.pure (.bool (r16.2 == 0)) (by kernel_rfl) (fun _ => by kernel_rfl) ?_
           refine T.pure (.bool (r16.2 == 0)) (by kernel_rfl) (fun _ => by kernel_rfl) ?_
           refine T.pure (.bool (r16.2 == 0)) (by kernel_rfl) (fun _ => by kernel_rfl) ?_
           cases hg14 : (r16.2 == 0)
           ·
            skip
            rw [hg14, cond_false] at hX8
            refine T.pass (by kernel_rfl) (by kernel_rfl) ?_
            refine T.pass (by kernel_rfl) (by kernel_rfl) ?_
            refine T.pass (by kernel_rfl) (by kernel_rfl) ?_
            refine T.pass (by kernel_rfl) (by kernel_rfl) ?_
            refine T.pass (by kernel_rfl) (by kernel_rfl) ?_
            refine T.pure (.bool false) (by kernel_rfl) (fun _ => by kernel_rfl) ?_
            refine T.pure (.bool false) (by kernel_rfl) (fun _ => by kernel_rfl) ?_
            refine T.pass (by kernel_rfl) (by kernel_rfl) ?_
            refine T.pass (by kernel_rfl) (by kernel_rfl) ?_
            refine T.pass (by kernel_rfl) (by kernel_rfl) ?_
            refine T.pass (by kernel_rfl) (by kernel_rfl) ?_
            refine T.pass (by kernel_rfl) (by kernel_rfl) ?_
            refine T.pure (.bool false) (by kernel_rfl) (fun _ => by kernel_rfl) ?_
            refine T.pure (.bool false) (by kernel_rfl) (fun _ => by kernel_rfl) ?_
            refine T.nil ?_
            cases hX8
            exact fun a w' hf hh => Exists.intro V24 (And.intro (View.le_refl _) (And.intro ((Fr.nil hf).pick hf 10 rfl) (hh.sub (.cons _ (.cons _ (.cons _ (.cons _ List.Sublist.slnil)))))))
           ·
            skip
            rw [hg14, cond_true] at hX8
            refine T.pure (.pointer (some ⟨b7, 17, none⟩)) (by kernel_rfl) (fun _ => by kernel_rfl) ?_
            refine T.pure (.pointer (some ⟨b7, 18, none⟩)) (by kernel_rfl) (fun _ => by kernel_rfl) ?_
            refine T.look (.int .i64 r15.1.fed.x1) (by kernel_rfl) (fun w' hh => exec_load1 rfl rfl (by kernel_rfl) (hh.cellBox (i := 0) (by rfl) 18)) ?_
            refine T.pure (.int .i64 r16.1) (by kernel_rfl) (fun _ => by kernel_rfl) ?_
            refine T.pure (.bool (r15.1.fed.x1 == r16.1)) (by kernel_rfl) (fun _ => by kernel_rfl) ?_
            refine T.pure (.bool (r15.1.fed.x1 == r16.1)) (by kernel_rfl) (fun _ => by kernel_rfl) ?_
            refine T.pure (.bool (r15.1.fed.x1 == r16.1)) (by kernel_rfl) (fun _ => by kernel_rfl) ?_
            cases hg15 : (r15.1.fed.x1 == r16.1)
            ·
             skip
             rw [hg15, cond_false] at hX8
             refine T.pass (by kernel_rfl) (by kernel_rfl) ?_
             refine T.pass (by kernel_rfl) (by kernel_rfl) ?_
             refine T.pass (by kernel_rfl) (by kernel_rfl) ?_
             refine T.pass (by kernel_rfl) (by kernel_rfl) ?_
             refine T.pass (by kernel_rfl) (by kernel_rfl) ?_
             refine T.pure (.bool false) (by kernel_rfl) (fun _ => by kernel_rfl) ?_
             refine T.pure (.bool false) (by kernel_rfl) (fun _ => by kernel_rfl) ?_
             refine T.nil ?_
             cases hX8
             exact fun a w' hf hh => Exists.intro V24 (And.intro (View.le_refl _) (And.intro ((Fr.nil hf).pick hf 10 rfl) (hh.sub (.cons _ (.cons _ (.cons _ (.cons _ List.Sublist.slnil)))))))
            ·
             skip
             rw [hg15, cond_true] at hX8
             refine T.pure (.pointer (some ⟨b7, 0, none⟩)) (by kernel_rfl) (fun _ => by kernel_rfl) ?_
             refine T.look (.slice A20 r15.1.run.length c20) (by kernel_rfl) (fun w' hh => exec_load1 rfl rfl (by kernel_rfl) (hh.cellBox (i := 0) (by rfl) 0)) ?_
             refine T.pure (.pointer (some ⟨b3, 0, none⟩)) (by kernel_rfl) (fun _ => by kernel_rfl) ?_
             refine T.look (.slice A9 z1.length c9) (by kernel_rfl) (fun w' hh => exec_load1 rfl rfl (by kernel_rfl) (hh.cellBox (i := 2) (by rfl) 0)) ?_
             obtain ⟨r18, hb21, hX8⟩ := Option.bind_eq_some_iff.1 hX8
             refine T.step (W1.call (vSc eBool) r18 29 #[.slice A20 r15.1.run.length c20, .slice A9 z1.length c9] (by kernel_rfl) (fun _ => by kernel_rfl) (fun w' hh => slices_Equal_Elem_l F r15.1.run z1 r18 hb21 w' A20 c20 (SlOk.mono (SlOk.mono hs20 (View.le_trans (made_le _ _) hV24)) hh.view) A9 c9 (SlOk.mono (SlOk.mono hs9 (View.le_trans (made_le _ _) (View.le_trans (View.le_trans (View.le_trans (View.le_trans (View.le_trans hV18 hV19) hV21) hV22) hV23) hV24))) hh.view)) ?_)
             intro u V27 hV27 hu
             obtain rfl := sureBool _ _ _ hu
             refine T.pure (.bool r18) (by kernel_rfl) (fun _ => by kernel_rfl) ?_
             refine T.pure (.bool r18) (by kernel_rfl) (fun _ => by kernel_rfl) ?_
             refine T.nil ?_
             cases hX8
             exact fun a w' hf hh => Exists.intro V27 (And.intro hV27 (And.intro ((Fr.nil hf).pick hf 10 rfl) (hh.sub (.cons _ (.cons _ (.cons _ (.cons _ List.Sublist.slnil)))))))
        ·
         skip
         rw [hg7, cond_true] at hX8
         refine T.pass (by kernel_rfl) (by kernel_rfl) ?_
         refine T.pass (by kernel_rfl) (by kernel_rfl) ?_
         refine T.pass (by kernel_rfl) (by kernel_rfl) ?_
         refine T.pure (.bool true) (by kernel_rfl) (fun _ => by kernel_rfl) ?_
         refine T.pure (.bool true) (by kernel_rfl) (fun _ => by kernel_rfl) ?_
         refine T.pass (by kernel_rfl) (by kernel_rfl) ?_
         refine T.pass (by kernel_rfl) (by kernel_rfl) ?_
         refine T.pure (.bool true) (by kernel_rfl) (fun _ => by kernel_rfl) ?_
         refine T.pure (.bool true) (by kernel_rfl) (fun _ => by kernel_rfl) ?_
         refine T.pure (.int .i64 r15.2) (by kernel_rfl) (fun _ => by kernel_rfl) ?_
         refine T.pure (.bool (r15.2 == 0)) (by kernel_rfl) (fun _ => by kernel_rfl) ?_
         refine T.pure (.bool (r15.2 == 0)) (by kernel_rfl) (fun _ => by kernel_rfl) ?_
         refine T.pure (.bool (r15.2 == 0)) (by kernel_rfl) (fun _ => by kernel_rfl) ?_
         cases hg16 : (r15.2 == 0)
         ·
          skip
          rw [hg16, cond_false] at hX8
          refine T.pass (by kernel_rfl) (by kernel_rfl) ?_
          refine T.pass (by kernel_rfl) (by kernel_rfl) ?_
          refine T.pure (.bool false) (by kernel_rfl) (fun _ => by kernel_rfl) ?_
          refine T.pure (.bool false) (by kernel_rfl) (fun _ => by kernel_rfl) ?_
          refine T.pass (by kernel_rfl) (by kernel_rfl) ?_
          refine T.pass (by kernel_rfl) (by kernel_rfl) ?_
          refine T.pass (by kernel_rfl) (by kernel_rfl) ?_
          refine T.pass (by kernel_rfl) (by kernel_rfl) ?_
          refine T.pass (by kernel_rfl) (by kernel_rfl) ?_
          refine T.pure (.bool false) (by kernel_rfl) (fun _ => by kernel_rfl) ?_
          refine T.pure (.bool false) (by kernel_rfl) (fun _ => by kernel_rfl) ?_
          refine T.pass (by kernel_rfl) (by kernel_rfl) ?_
          refine T.pass (by kernel_rfl) (by kernel_rfl) ?_
          refine T.pass (by kernel_rfl) (by kernel_rfl) ?_
          refine T.pass (by kernel_rfl) (by kernel_rfl) ?_
          refine T.pass (by kernel_rfl) (by kernel_rfl) ?_
          refine T.pure (.bool false) (by kernel_rfl) (fun _ => by kernel_rfl) ?_
          refine T.pure (.bool false) (by kernel_rfl) (fun _ => by kernel_rfl) ?_
          refine T.nil ?_
          cases hX8
          exact fun a w' hf hh => Exists.intro V24 (And.intro (View.le_refl _) (And.intro ((Fr.nil hf).pick hf 10 rfl) (hh.sub (.cons _ (.cons _ (.cons _ (.cons _ List.Sublist.slnil)))))))
         ·
          skip
          rw [hg16, cond_true] at hX8
          refine T.pure (.int .i64 r16.2) (by kernel_rfl) (fun _ => by kernel_rfl) ?_
          refine T.pure (.bool (r16.2 == 0)) (by kernel_rfl) (fun _ => by kernel_rfl) ?_
          refine T.pure (.bool (r16.2 == 0)) (by kernel_rfl) (fun _ => by kernel_rfl) ?_
          refine T.pure (.bool (r16.2 == 0)) (by kernel_rfl) (fun _ => by kernel_rfl) ?_
          cases hg17 : (r16.2 == 0)
          ·
           skip
           rw [hg17, cond_false] at hX8
           refine T.pass (by kernel_rfl) (by kernel_rfl) ?_
           refine T.pass (by kernel_rfl) (by kernel_rfl) ?_
           refine T.pass (by kernel_rfl) (by kernel_rfl) ?_
           refine T.pass (by kernel_rfl) (by kernel_rfl) ?_
           refine T.pass (by kernel_rfl) (by kernel_rfl) ?_
           refine T.pure (.bool false) (by kernel_rfl) (fun _ => by kernel_rfl) ?_
           refine T.pure (.bool false) (by kernel_rfl) (fun _ => by kernel_rfl) ?_
           refine T.pass (by kernel_rfl) (by kernel_rfl) ?_
           refine T.pass (by kernel_rfl) (by kernel_rfl) ?_
           refine T.pass (by kernel_rfl) (by kernel_rfl) ?_
           refine T.pass (by kernel_rfl) (by kernel_rfl) ?_
           refine T.pass (by kernel_rfl) (by kernel_rfl) ?_
           refine T.pure (.bool false) (by kernel_rfl) (fun _ => by kernel_rfl) ?_
           refine T.pure (.bool false) (by kernel_rfl) (fun _ => by kernel_rfl) ?_
           refine T.nil ?_
           cases hX8
           exact fun a w' hf hh => Exists.intro V24 (And.intro (View.le_refl _) (And.intro ((Fr.nil hf).pick hf 10 rfl) (hh.sub (.cons _ (.cons _ (.cons _ (.cons _ List.Sublist.slnil)))))))
          ·
           skip
           rw [hg17, cond_true] at hX8
           refine T.pure (.pointer (some ⟨b7, 17, none⟩)) (by kernel_rfl) (fun _ => by kernel_rfl) ?_
           refine T.pure (.pointer (some ⟨b7, 18, none⟩)) (by kernel_rfl) (fun _ => by kernel_rfl) ?_
           refine T.look (.int .i64 r15.1.fed.x1) (by kernel_rfl) (fun w' hh => exec_load1 rfl rfl (by kernel_rfl) (hh.cellBox (i := 0) (by rfl) 18)) ?_
           refine T.pure (.int .i64 r16.1) (by kernel_rfl) (fun _ => by kernel_rfl) ?_
           refine T.pure (.bool (r15.1.fed.x1 == r16.1)) (by kernel_rfl) (fun _ => by kernel_rfl) ?_
           refine T.pure (.bool (r15.1.fed.x1 == r16.1)) (by kernel_rfl) (fun _ => by kernel_rfl) ?_
           refine T.pure (.bool (r15.1.fed.x1 == r16.1)) (by kernel_rfl) (fun _ => by kernel_rfl) ?_
           cases hg18 : (r15.1.fed.x1 == r16.1)
           ·
            skip
            rw [hg18, cond_false] at hX8
            refine T.pass (by kernel_rfl) (by kernel_rfl) ?_
            refine T.pass (by kernel_rfl) (by kernel_rfl) ?_
            refine T.pass (by kernel_rfl) (by kernel_rfl) ?_
            refine T.pass (by kernel_rfl) (by kernel_rfl) ?_
            refine T.pass (by kernel_rfl) (by kernel_rfl) ?_
            refine T.pure (.bool false) (by kernel_rfl) (fun _ => by kernel_rfl) ?_
            refine T.pure (.bool false) (by kernel_rfl) (fun _ => by kernel_rfl) ?_
            refine T.nil ?_
            cases hX8
            exact fun a w' hf hh => Exists.intro V24 (And.intro (View.le_refl _) (And.intro ((Fr.nil hf).pick hf 10 rfl) (hh.sub (.cons _ (.cons _ (.cons _ (.cons _ List.Sublist.slnil)))))))
           ·
            skip
            rw [hg18, cond_true] at hX8
            refine T.pure (.pointer (some ⟨b7, 0, none⟩)) (by kernel_rfl) (fun _ => by kernel_rfl) ?_
            refine T.look (.slice A20 r15.1.run.length c20) (by kernel_rfl) (fun w' hh => exec_load1 rfl rfl (by kernel_rfl) (hh.cellBox (i := 0) (by rfl) 0)) ?_
            refine T.pure (.pointer (some ⟨b3, 0, none⟩)) (by kernel_rfl) (fun _ => by kernel_rfl) ?_
            refine T.look (.slice A9 z1.length c9) (by kernel_rfl) (fun w' hh => exec_load1 rfl rfl (by kernel_rfl) (hh.cellBox (i := 2) (by rfl) 0)) ?_
            obtain ⟨r19, hb22, hX8⟩ := Option.bind_eq_some_iff.1 hX8
            refine T.step (W1.call (vSc eBool) r19 29 #[.slice A20 r15.1.run.length c20, .slice A9 z1.length c9] (by kernel_rfl) (fun _ => by kernel_rfl) (fun w' hh => slices_Equal_Elem_l F r15.1.run z1 r19 hb22 w' A20 c20 (SlOk.mono (SlOk.mono hs20 (View.le_trans (made_le _ _) hV24)) hh.view) A9 c9 (SlOk.mono (SlOk.mono hs9 (View.le_trans (made_le _ _) (View.le_trans (View.le_trans (View.le_trans (View.le_trans (View.le_trans hV18 hV19) hV21) hV22) hV23) hV24))) hh.view)) ?_)
            intro u V28 hV28 hu
            obtain rfl := sureBool _ _ _ hu
            refine T.pure (.bool r19) (by kernel_rfl) (fun _ => by kernel_rfl) ?_
            refine T.pure (.bool r19) (by kernel_rfl) (fun _ => by kernel_rfl) ?_
            refine T.nil ?_
            cases hX8
            exact fun a w' hf hh => Exists.intro V28 (And.intro hV28 (And.intro ((Fr.nil hf).pick hf 10 rfl) (hh.sub (.cons _ (.cons _ (.cons _ (.cons _ List.Sublist.slnil)))))))
       ·
        rintro a w' ⟨V25, hV25, hf, hh⟩
        refine (?_ : T 231 w V25 [] [(10, .bool z24)] _) a w' hf hh
        clear hf hh
        cases hF
        refine T.ret rfl ?_
        exact T.ret1 rfl (ResIs.tmp rfl) fun w' hh => ⟨_, rfl, hh.below, (show _ from rfl)⟩

end Go.Proofs.Ytomgholekojenaa
