/- The Go functions of group WRealmApart compute the pure functions of that group: written by walkgen.py. Condition of each: the pure function yields a result. -/
import Derived.Test.YtdggcklddjndmaaFeedLJ
import Derived.Test.YtdggcklddjndmaaRefLJ
import Derived.Test.YtdggcklddjndmaaEqsLJ
import Derived.Test.YtdggcklddjndmaaClearJ
import Derived.Test.YtdggcklddjndmaaWRealmApartFJ
import Derived.Test.YtdggcklddjndmaaEqLJ
namespace Go.Proofs.Ytdggcklddjndmaa
set_option linter.unusedVariables false
set_option maxRecDepth 100000 in
set_option maxHeartbeats 4000000 in
theorem annalkeep_RealmApart_l (F : Nat) (p0 : DBook) (p1 : DKey) (p2 : ByteArray) (p3 : Int) (p4 : ByteArray) (r : Bool) (hF : annalkeep_RealmApart F p0 p1 p2 p3 p4 = some r) (w : World) (A1 : Option Addr) (c1 : Nat) (hs1 : SlOk (vw w) eElem A1 c1 p0.run) :
 Calls Try.prog 3 #[.agg (List.toArray ((.slice A1 p0.run.length c1) :: (DA16.cells p0.roles ++ (DA16.cells p0.fed)))), .agg #[.int .i64 p1.pfs, .int .i64 p1.obj, .int .i64 p1.off], .string p2, .int .i64 p3, .string p4] w (Post (vSc eBool) r w) := by
 unfold annalkeep_RealmApart at hF
 refine T.start (l := [.agg (List.toArray ((.slice A1 p0.run.length c1) :: (DA16.cells p0.roles ++ (DA16.cells p0.fed)))), .agg #[.int .i64 p1.pfs, .int .i64 p1.obj, .int .i64 p1.off], .string p2, .int .i64 p3, .string p4]) Try.func3 rfl rfl rfl ?_
 refine T.seq ?_
 refine T.region ?_
 refine T.step (W1.new 25 ((.slice A1 p0.run.length c1) :: (DA16.cells p0.roles ++ (DA16.cells p0.fed))) (fun b => .pointer (some ⟨b, 0, none⟩)) (by kernel_rfl) (fun _ => by kernel_rfl) (fun b1 => ?_))
 refine T.step (W1.new 27 [.int .i64 p1.pfs, .int .i64 p1.obj, .int .i64 p1.off] (fun b => .pointer (some ⟨b, 0, none⟩)) (by kernel_rfl) (fun _ => by kernel_rfl) (fun b2 => ?_))
 refine T.pure (.bool false) (by kernel_rfl) (fun _ => by kernel_rfl) ?_
 refine T.nil ?_
 refine T.seq ?_
 refine T.seq ?_
 refine T.region ?_
 obtain ⟨r1, hb1, hF⟩ := Option.bind_eq_some_iff.1 hF
 refine T.step (W1.call (vAg eBook) r1 5 #[] (by kernel_rfl) (fun _ => by kernel_rfl) (fun w' hh => annalkeep_book_l  r1 hb1 w' ) ?_)
 intro u V1 hV1 hu
 obtain ⟨cs1, rfl, hr1⟩ := vagg_elim hu
 obtain ⟨A2, c2, rfl, hs2⟩ := hr1
 refine T.pure (.agg #[.int .i64 0, .int .i64 0, .int .i64 0]) (by kernel_rfl) (fun _ => by kernel_rfl) ?_
 obtain ⟨r2, hb2, hF⟩ := Option.bind_eq_some_iff.1 hF
 refine T.step (W1.call (vT2 (vAg eBook) (vSc eInt)) r2 4 #[.agg (List.toArray ((.slice A2 r1.run.length c2) :: (DA16.cells r1.roles ++ (DA16.cells r1.fed)))), .agg #[.int .i64 0, .int .i64 0, .int .i64 0], .string (ByteArray.mk #[97]), .int .i64 1] (by kernel_rfl) (fun _ => by kernel_rfl) (fun w' hh => realm_Put_l F r1 (DKey.mk 0 0 0) (ByteArray.mk #[97]) 1 r2 hb2 w' A2 c2 (SlOk.mono (SlOk.mono hs2 (View.le_trans (made_le _ _) (View.le_refl _))) hh.view)) ?_)
 intro u V2 hV2 hu
 obtain ⟨u1, u2, rfl, hu1, hu2⟩ := vT2_elim hu
 obtain ⟨cs2, rfl, hr2⟩ := vagg_elim hu1
 obtain ⟨A3, c3, rfl, hs3⟩ := hr2
 obtain rfl := sureInt _ _ _ hu2
 refine T.pure (.tuple #[.agg (List.toArray ((.slice A3 r2.1.run.length c3) :: (DA16.cells r2.1.roles ++ (DA16.cells r2.1.fed)))), .int .i64 r2.2]) (by kernel_rfl) (fun _ => by kernel_rfl) ?_
 refine T.pure (.agg (List.toArray ((.slice A3 r2.1.run.length c3) :: (DA16.cells r2.1.roles ++ (DA16.cells r2.1.fed))))) (by kernel_rfl) (fun _ => by kernel_rfl) ?_
 refine T.pure (.int .i64 r2.2) (by kernel_rfl) (fun _ => by kernel_rfl) ?_
 refine T.step (W1.new 25 ((.slice none 0 0) :: (DA16.cells (DA16.mk 0 0 0 0 0 0 0 0 0 0 0 0 0 0 0 0) ++ (DA16.cells (DA16.mk 0 0 0 0 0 0 0 0 0 0 0 0 0 0 0 0)))) (fun b => .pointer (some ⟨b, 0, none⟩)) (by kernel_rfl) (fun _ => by kernel_rfl) (fun b3 => ?_))
 refine T.step (W1.store 0 ((.slice A3 r2.1.run.length c3) :: (DA16.cells r2.1.roles ++ (DA16.cells r2.1.fed))) [box b3 25 ((.slice A3 r2.1.run.length c3) :: (DA16.cells r2.1.roles ++ (DA16.cells r2.1.fed))), box b2 27 [.int .i64 p1.pfs, .int .i64 p1.obj, .int .i64 p1.off], box b1 25 ((.slice A1 p0.run.length c1) :: (DA16.cells p0.roles ++ (DA16.cells p0.fed)))] (by rfl) rfl (by kernel_rfl) (fun w' hw => exec_store (vs := ((.slice A3 r2.1.run.length c3) :: (DA16.cells r2.1.roles ++ (DA16.cells r2.1.fed)))) rfl rfl rfl rfl (by kernel_rfl) (one_of rfl) (Nat.le_of_ble_eq_true (by rfl)) rfl hw) ?_)
 refine T.pure (.int .i64 r2.2) (by kernel_rfl) (fun _ => by kernel_rfl) ?_
 refine T.nil ?_
 refine T.cut (fun a w' => Fr 96 [(2, .string p2), (3, .int .i64 p3), (4, .string p4), (5, .pointer (some ⟨b1, 0, none⟩)), (6, .pointer (some ⟨b2, 0, none⟩)), (35, .bool ((r2.2 != 0) || ((r2.1.run.length : Int) != 1)))] a ∧ Hp w V2 [box b2 27 [.int .i64 p1.pfs, .int .i64 p1.obj, .int .i64 p1.off], box b1 25 ((.slice A1 p0.run.length c1) :: (DA16.cells p0.roles ++ (DA16.cells p0.fed)))] w') ?_ ?_
 ·
  refine T.region ?_
  refine T.pure (.int .i64 r2.2) (by kernel_rfl) (fun _ => by kernel_rfl) ?_
  refine T.pure (.bool (r2.2 != 0)) (by kernel_rfl) (fun _ => by kernel_rfl) ?_
  refine T.pure (.bool (r2.2 != 0)) (by kernel_rfl) (fun _ => by kernel_rfl) ?_
  cases hg1 : (r2.2 != 0)
  ·
   skip
   refine T.pure (.pointer (some ⟨b3, 0, none⟩)) (by kernel_rfl) (fun _ => by kernel_rfl) ?_
   refine T.look (.slice A3 r2.1.run.length c3) (by kernel_rfl) (fun w' hh => exec_load1 rfl rfl (by kernel_rfl) (hh.cellBox (i := 0) (by rfl) 0)) ?_
   refine T.pure (.int .i64 (r2.1.run.length : Int)) (by kernel_rfl) (fun _ => by kernel_rfl) ?_
   refine T.pure (.bool ((r2.1.run.length : Int) != 1)) (by kernel_rfl) (fun _ => by kernel_rfl) ?_
   refine T.pure (.bool ((r2.1.run.length : Int) != 1)) (by kernel_rfl) (fun _ => by kernel_rfl) ?_
   refine T.nil ?_
   exact fun a w' hf hh => And.intro (((((((Fr.nil hf).pick hf 35 rfl).pick hf 6 rfl).pick hf 5 rfl).pick hf 4 rfl).pick hf 3 rfl).pick hf 2 rfl) (hh.sub (.cons _ (.cons_cons _ (.cons_cons _ List.Sublist.slnil))))
  ·
   skip
   refine T.pass (by kernel_rfl) (by kernel_rfl) ?_
   refine T.pass (by kernel_rfl) (by kernel_rfl) ?_
   refine T.pass (by kernel_rfl) (by kernel_rfl) ?_
   refine T.pass (by kernel_rfl) (by kernel_rfl) ?_
   refine T.pure (.bool true) (by kernel_rfl) (fun _ => by kernel_rfl) ?_
   refine T.nil ?_
   exact fun a w' hf hh => And.intro (((((((Fr.nil hf).pick hf 35 rfl).pick hf 6 rfl).pick hf 5 rfl).pick hf 4 rfl).pick hf 3 rfl).pick hf 2 rfl) (hh.sub (.cons _ (.cons_cons _ (.cons_cons _ List.Sublist.slnil))))
 ·
  rintro a w' ⟨hf, hh⟩
  refine (?_ : T 96 w V2 [box b2 27 [.int .i64 p1.pfs, .int .i64 p1.obj, .int .i64 p1.off], box b1 25 ((.slice A1 p0.run.length c1) :: (DA16.cells p0.roles ++ (DA16.cells p0.fed)))] [(2, .string p2), (3, .int .i64 p3), (4, .string p4), (5, .pointer (some ⟨b1, 0, none⟩)), (6, .pointer (some ⟨b2, 0, none⟩)), (35, .bool ((r2.2 != 0) || ((r2.1.run.length : Int) != 1)))] _) a w' hf hh
  clear hf hh
  refine T.cond ((r2.2 != 0) || ((r2.1.run.length : Int) != 1)) (by kernel_rfl) (by kernel_rfl) (fun hc1 => ?_) (fun hc1 => ?_)
  ·
   rw [hc1, cond_true] at hF
   refine T.seq ?_
   refine T.region ?_
   refine T.pure (.bool false) (by kernel_rfl) (fun _ => by kernel_rfl) ?_
   refine T.nil ?_
   cases hF
   refine T.ret rfl ?_
   exact T.ret1 rfl (ResIs.tmp rfl) fun w' hh => ⟨_, rfl, hh.below, (show _ from rfl)⟩
  ·
   rw [hc1, cond_false] at hF
   refine T.skip_code ?_
   refine T.seq ?_
   refine T.seq ?_
   refine T.region ?_
   obtain ⟨r3, hb3, hF⟩ := Option.bind_eq_some_iff.1 hF
   refine T.step (W1.call (vAg eBook) r3 5 #[] (by kernel_rfl) (fun _ => by kernel_rfl) (fun w' hh => annalkeep_book_l  r3 hb3 w' ) ?_)
   intro u V3 hV3 hu
   obtain ⟨cs3, rfl, hr3⟩ := vagg_elim hu
   obtain ⟨A4, c4, rfl, hs4⟩ := hr3
   refine T.pure (.agg #[.int .i64 1, .int .i64 0, .int .i64 0]) (by kernel_rfl) (fun _ => by kernel_rfl) ?_
   obtain ⟨r4, hb4, hF⟩ := Option.bind_eq_some_iff.1 hF
   refine T.step (W1.call (vT2 (vAg eBook) (vSc eInt)) r4 4 #[.agg (List.toArray ((.slice A4 r3.run.length c4) :: (DA16.cells r3.roles ++ (DA16.cells r3.fed)))), .agg #[.int .i64 1, .int .i64 0, .int .i64 0], .string (ByteArray.mk #[97]), .int .i64 1] (by kernel_rfl) (fun _ => by kernel_rfl) (fun w' hh => realm_Put_l F r3 (DKey.mk 1 0 0) (ByteArray.mk #[97]) 1 r4 hb4 w' A4 c4 (SlOk.mono (SlOk.mono hs4 (View.le_trans (made_le _ _) (View.le_refl _))) hh.view)) ?_)
   intro u V4 hV4 hu
   obtain ⟨u3, u4, rfl, hu3, hu4⟩ := vT2_elim hu
   obtain ⟨cs4, rfl, hr4⟩ := vagg_elim hu3
   obtain ⟨A5, c5, rfl, hs5⟩ := hr4
   obtain rfl := sureInt _ _ _ hu4
   refine T.pure (.tuple #[.agg (List.toArray ((.slice A5 r4.1.run.length c5) :: (DA16.cells r4.1.roles ++ (DA16.cells r4.1.fed)))), .int .i64 r4.2]) (by kernel_rfl) (fun _ => by kernel_rfl) ?_
   refine T.pure (.agg (List.toArray ((.slice A5 r4.1.run.length c5) :: (DA16.cells r4.1.roles ++ (DA16.cells r4.1.fed))))) (by kernel_rfl) (fun _ => by kernel_rfl) ?_
   refine T.pure (.int .i64 r4.2) (by kernel_rfl) (fun _ => by kernel_rfl) ?_
   refine T.step (W1.new 25 ((.slice none 0 0) :: (DA16.cells (DA16.mk 0 0 0 0 0 0 0 0 0 0 0 0 0 0 0 0) ++ (DA16.cells (DA16.mk 0 0 0 0 0 0 0 0 0 0 0 0 0 0 0 0)))) (fun b => .pointer (some ⟨b, 0, none⟩)) (by kernel_rfl) (fun _ => by kernel_rfl) (fun b4 => ?_))
   refine T.step (W1.store 0 ((.slice A5 r4.1.run.length c5) :: (DA16.cells r4.1.roles ++ (DA16.cells r4.1.fed))) [box b4 25 ((.slice A5 r4.1.run.length c5) :: (DA16.cells r4.1.roles ++ (DA16.cells r4.1.fed))), box b2 27 [.int .i64 p1.pfs, .int .i64 p1.obj, .int .i64 p1.off], box b1 25 ((.slice A1 p0.run.length c1) :: (DA16.cells p0.roles ++ (DA16.cells p0.fed)))] (by rfl) rfl (by kernel_rfl) (fun w' hw => exec_store (vs := ((.slice A5 r4.1.run.length c5) :: (DA16.cells r4.1.roles ++ (DA16.cells r4.1.fed)))) rfl rfl rfl rfl (by kernel_rfl) (one_of rfl) (Nat.le_of_ble_eq_true (by rfl)) rfl hw) ?_)
   refine T.pure (.int .i64 r4.2) (by kernel_rfl) (fun _ => by kernel_rfl) ?_
   refine T.nil ?_
   refine T.seq ?_
   refine T.region ?_
   refine T.pure (.int .i64 r4.2) (by kernel_rfl) (fun _ => by kernel_rfl) ?_
   refine T.pure (.bool (r4.2 != 10)) (by kernel_rfl) (fun _ => by kernel_rfl) ?_
   refine T.nil ?_
   refine T.cond (r4.2 != 10) (by kernel_rfl) (by kernel_rfl) (fun hc2 => ?_) (fun hc2 => ?_)
   ·
    rw [hc2, cond_true] at hF
    refine T.seq ?_
    refine T.region ?_
    refine T.pure (.bool false) (by kernel_rfl) (fun _ => by kernel_rfl) ?_
    refine T.nil ?_
    cases hF
    refine T.ret rfl ?_
    exact T.ret1 rfl (ResIs.tmp rfl) fun w' hh => ⟨_, rfl, hh.below, (show _ from rfl)⟩
   ·
    rw [hc2, cond_false] at hF
    refine T.skip_code ?_
    refine T.seq ?_
    refine T.region ?_
    refine T.pure (.func (.func 6) #[] #[.pointer (some ⟨b1, 0, none⟩)]) (by kernel_rfl) (fun _ => by kernel_rfl) ?_
    refine T.pure (.func (.func 6) #[] #[.pointer (some ⟨b1, 0, none⟩)]) (by kernel_rfl) (fun _ => by kernel_rfl) ?_
    refine T.nil ?_
    refine T.seq ?_
    refine T.seq ?_
    refine T.region ?_
    refine T.look (.agg (List.toArray ((.slice A1 p0.run.length c1) :: (DA16.cells p0.roles ++ (DA16.cells p0.fed))))) (by kernel_rfl) (fun w' hh => exec_loadN (cs := ((.slice A1 p0.run.length c1) :: (DA16.cells p0.roles ++ (DA16.cells p0.fed)))) rfl rfl (by kernel_rfl) (by kernel_rfl) (fun j u hj => (hh.box_at (i := 2) (cs := ((.slice A1 p0.run.length c1) :: (DA16.cells p0.roles ++ (DA16.cells p0.fed)))) (by rfl) 0 j).trans (seg_at (n := 33) (by rfl) hj))) ?_
    refine T.look (.agg #[.int .i64 p1.pfs, .int .i64 p1.obj, .int .i64 p1.off]) (by kernel_rfl) (fun w' hh => exec_loadN (cs := [.int .i64 p1.pfs, .int .i64 p1.obj, .int .i64 p1.off]) rfl rfl (by kernel_rfl) (by kernel_rfl) (fun j u hj => (hh.box_at (i := 1) (cs := [.int .i64 p1.pfs, .int .i64 p1.obj, .int .i64 p1.off]) (by rfl) 0 j).trans (seg_at (n := 3) (by rfl) hj))) ?_
    refine T.pure (.string p2) (by kernel_rfl) (fun _ => by kernel_rfl) ?_
    refine T.pure (.int .i64 p3) (by kernel_rfl) (fun _ => by kernel_rfl) ?_
    obtain ⟨r5, hb5, hF⟩ := Option.bind_eq_some_iff.1 hF
    refine T.step (W1.call (vT2 (vAg eBook) (vSc eInt)) r5 4 #[.agg (List.toArray ((.slice A1 p0.run.length c1) :: (DA16.cells p0.roles ++ (DA16.cells p0.fed)))), .agg #[.int .i64 p1.pfs, .int .i64 p1.obj, .int .i64 p1.off], .string p2, .int .i64 p3] (by kernel_rfl) (fun _ => by kernel_rfl) (fun w' hh => realm_Put_l F p0 p1 p2 p3 r5 hb5 w' A1 c1 (SlOk.mono (SlOk.mono hs1 (View.le_trans (View.le_trans (View.le_trans hV1 hV2) hV3) hV4)) hh.view)) ?_)
    intro u V5 hV5 hu
    obtain ⟨u5, u6, rfl, hu5, hu6⟩ := vT2_elim hu
    obtain ⟨cs5, rfl, hr5⟩ := vagg_elim hu5
    obtain ⟨A6, c6, rfl, hs6⟩ := hr5
    obtain rfl := sureInt _ _ _ hu6
    refine T.pure (.tuple #[.agg (List.toArray ((.slice A6 r5.1.run.length c6) :: (DA16.cells r5.1.roles ++ (DA16.cells r5.1.fed)))), .int .i64 r5.2]) (by kernel_rfl) (fun _ => by kernel_rfl) ?_
    refine T.pure (.agg (List.toArray ((.slice A6 r5.1.run.length c6) :: (DA16.cells r5.1.roles ++ (DA16.cells r5.1.fed))))) (by kernel_rfl) (fun _ => by kernel_rfl) ?_
    refine T.pure (.int .i64 r5.2) (by kernel_rfl) (fun _ => by kernel_rfl) ?_
    refine T.step (W1.new 25 ((.slice none 0 0) :: (DA16.cells (DA16.mk 0 0 0 0 0 0 0 0 0 0 0 0 0 0 0 0) ++ (DA16.cells (DA16.mk 0 0 0 0 0 0 0 0 0 0 0 0 0 0 0 0)))) (fun b => .pointer (some ⟨b, 0, none⟩)) (by kernel_rfl) (fun _ => by kernel_rfl) (fun b5 => ?_))
    refine T.step (W1.store 0 ((.slice A6 r5.1.run.length c6) :: (DA16.cells r5.1.roles ++ (DA16.cells r5.1.fed))) [box b5 25 ((.slice A6 r5.1.run.length c6) :: (DA16.cells r5.1.roles ++ (DA16.cells r5.1.fed))), box b4 25 ((.slice A5 r4.1.run.length c5) :: (DA16.cells r4.1.roles ++ (DA16.cells r4.1.fed))), box b2 27 [.int .i64 p1.pfs, .int .i64 p1.obj, .int .i64 p1.off], box b1 25 ((.slice A1 p0.run.length c1) :: (DA16.cells p0.roles ++ (DA16.cells p0.fed)))] (by rfl) rfl (by kernel_rfl) (fun w' hw => exec_store (vs := ((.slice A6 r5.1.run.length c6) :: (DA16.cells r5.1.roles ++ (DA16.cells r5.1.fed)))) rfl rfl rfl rfl (by kernel_rfl) (one_of rfl) (Nat.le_of_ble_eq_true (by rfl)) rfl hw) ?_)
    refine T.pure (.int .i64 r5.2) (by kernel_rfl) (fun _ => by kernel_rfl) ?_
    refine T.nil ?_
    obtain ⟨z1, hX1, hF⟩ := Option.bind_eq_some_iff.1 hF
    refine T.cut (fun a w' => ∃ (V6 : View), View.le V5 V6 ∧ Fr 96 [(3, .int .i64 p3), (4, .string p4), (5, .pointer (some ⟨b1, 0, none⟩)), (6, .pointer (some ⟨b2, 0, none⟩)), (15, .func (.func 6) #[] #[.pointer (some ⟨b1, 0, none⟩)]), (62, .bool z1)] a ∧ Hp w V6 [box b2 27 [.int .i64 p1.pfs, .int .i64 p1.obj, .int .i64 p1.off], box b1 25 ((.slice A1 p0.run.length c1) :: (DA16.cells p0.roles ++ (DA16.cells p0.fed)))] w') ?_ ?_
    ·
     refine T.region ?_
     refine T.pure (.int .i64 r5.2) (by kernel_rfl) (fun _ => by kernel_rfl) ?_
     refine T.pure (.bool (r5.2 == 0)) (by kernel_rfl) (fun _ => by kernel_rfl) ?_
     refine T.pure (.bool (r5.2 == 0)) (by kernel_rfl) (fun _ => by kernel_rfl) ?_
     cases hg2 : (r5.2 == 0)
     ·
      skip
      rw [hg2, cond_false] at hX1
      refine T.pass (by kernel_rfl) (by kernel_rfl) ?_
      refine T.pass (by kernel_rfl) (by kernel_rfl) ?_
      refine T.pass (by kernel_rfl) (by kernel_rfl) ?_
      refine T.pass (by kernel_rfl) (by kernel_rfl) ?_
      refine T.pass (by kernel_rfl) (by kernel_rfl) ?_
      refine T.pass (by kernel_rfl) (by kernel_rfl) ?_
      refine T.pure (.bool false) (by kernel_rfl) (fun _ => by kernel_rfl) ?_
      refine T.nil ?_
      cases hX1
      exact fun a w' hf hh => Exists.intro V5 (And.intro (View.le_refl _) (And.intro (((((((Fr.nil hf).pick hf 62 rfl).pick hf 15 rfl).pick hf 6 rfl).pick hf 5 rfl).pick hf 4 rfl).pick hf 3 rfl) (hh.sub (.cons _ (.cons _ (.cons_cons _ (.cons_cons _ List.Sublist.slnil)))))))
     ·
      skip
      rw [hg2, cond_true] at hX1
      refine T.pure (.func (.func 6) #[] #[.pointer (some ⟨b1, 0, none⟩)]) (by kernel_rfl) (fun _ => by kernel_rfl) ?_
      refine T.look (.agg (List.toArray ((.slice A6 r5.1.run.length c6) :: (DA16.cells r5.1.roles ++ (DA16.cells r5.1.fed))))) (by kernel_rfl) (fun w' hh => exec_loadN (cs := ((.slice A6 r5.1.run.length c6) :: (DA16.cells r5.1.roles ++ (DA16.cells r5.1.fed)))) rfl rfl (by kernel_rfl) (by kernel_rfl) (fun j u hj => (hh.box_at (i := 0) (cs := ((.slice A6 r5.1.run.length c6) :: (DA16.cells r5.1.roles ++ (DA16.cells r5.1.fed)))) (by rfl) 0 j).trans (seg_at (n := 33) (by rfl) hj))) ?_
      refine T.pure (.pointer (some ⟨b2, 0, none⟩)) (by kernel_rfl) (fun _ => by kernel_rfl) ?_
      refine T.look (.int .i64 p1.pfs) (by kernel_rfl) (fun w' hh => exec_load1 rfl rfl (by kernel_rfl) (hh.cellBox (i := 2) (by rfl) 0)) ?_
      obtain ⟨z2, hX2, hX1⟩ := Option.bind_eq_some_iff.1 hX1
      refine T.step (W1.within 6 [.agg (List.toArray ((.slice A6 r5.1.run.length c6) :: (DA16.cells r5.1.roles ++ (DA16.cells r5.1.fed)))), .int .i64 p1.pfs, .pointer (some ⟨b1, 0, none⟩)] (fun v w' => ∃ (V7 : View), View.le V5 V7 ∧ v = .bool z2 ∧ Hp w V7 [box b5 25 ((.slice A6 r5.1.run.length c6) :: (DA16.cells r5.1.roles ++ (DA16.cells r5.1.fed))), box b2 27 [.int .i64 p1.pfs, .int .i64 p1.obj, .int .i64 p1.off], box b1 25 ((.slice A1 p0.run.length c1) :: (DA16.cells p0.roles ++ (DA16.cells p0.fed)))] w') Try.func6 rfl rfl (by kernel_rfl) (fun _ => by kernel_rfl) rfl ?_ ?_)
      ·
       refine T.seq ?_
       refine T.region ?_
       refine T.step (W1.new 25 ((.slice A6 r5.1.run.length c6) :: (DA16.cells r5.1.roles ++ (DA16.cells r5.1.fed))) (fun b => .pointer (some ⟨b, 0, none⟩)) (by kernel_rfl) (fun _ => by kernel_rfl) (fun b6 => ?_))
       refine T.pure (.bool false) (by kernel_rfl) (fun _ => by kernel_rfl) ?_
       refine T.nil ?_
       refine T.seq ?_
       refine T.seq ?_
       refine T.region ?_
       refine T.look (.agg (List.toArray ((.slice A6 r5.1.run.length c6) :: (DA16.cells r5.1.roles ++ (DA16.cells r5.1.fed))))) (by kernel_rfl) (fun w' hh => exec_loadN (cs := ((.slice A6 r5.1.run.length c6) :: (DA16.cells r5.1.roles ++ (DA16.cells r5.1.fed)))) rfl rfl (by kernel_rfl) (by kernel_rfl) (fun j u hj => (hh.box_at (i := 0) (cs := ((.slice A6 r5.1.run.length c6) :: (DA16.cells r5.1.roles ++ (DA16.cells r5.1.fed)))) (by rfl) 0 j).trans (seg_at (n := 33) (by rfl) hj))) ?_
       obtain ⟨r6, hb6, hX2⟩ := Option.bind_eq_some_iff.1 hX2
       refine T.step (W1.call (vSc eInt) r6 7 #[.agg (List.toArray ((.slice A6 r5.1.run.length c6) :: (DA16.cells r5.1.roles ++ (DA16.cells r5.1.fed))))] (by kernel_rfl) (fun _ => by kernel_rfl) (fun w' hh => realm_Check_l F r5.1 r6 hb6 w' A6 c6 (SlOk.mono (SlOk.mono hs6 (View.le_trans (made_le _ _) (View.le_refl _))) hh.view)) ?_)
       intro u V8 hV8 hu
       obtain rfl := sureInt _ _ _ hu
       refine T.pure (.bool (r6 != 0)) (by kernel_rfl) (fun _ => by kernel_rfl) ?_
       refine T.nil ?_
       refine T.cond (r6 != 0) (by kernel_rfl) (by kernel_rfl) (fun hc3 => ?_) (fun hc3 => ?_)
       ·
        rw [hc3, cond_true] at hX2
        refine T.seq ?_
        refine T.region ?_
        refine T.pure (.bool false) (by kernel_rfl) (fun _ => by kernel_rfl) ?_
        refine T.nil ?_
        cases hX2
        refine T.ret rfl ?_
        repeat first | refine T.unthen ?_ | refine T.unblock ?_
        exact T.ret1 rfl (ResIs.tmp rfl) fun w' hh => ⟨_, rfl, Exists.intro V8 (And.intro hV8 (And.intro rfl (hh.sub (.cons _ (.cons_cons _ (.cons _ (.cons_cons _ (.cons_cons _ List.Sublist.slnil))))))))⟩
       ·
        rw [hc3, cond_false] at hX2
        refine T.skip_code ?_
        refine T.seq ?_
        refine T.seq ?_
        refine T.region ?_
        refine T.pure (.int .i64 0) (by kernel_rfl) (fun _ => by kernel_rfl) ?_
        refine T.nil ?_
        obtain ⟨q1, hz1, hX2⟩ := Option.bind_eq_some_iff.1 hX2
        refine T.mid (fun a w' => q1 = Sum.inl () ∧ ∃ (V10 : View), View.le V8 V10 ∧ Fr 63 [] a ∧ Hp w V10 [box b5 25 ((.slice A6 r5.1.run.length c6) :: (DA16.cells r5.1.roles ++ (DA16.cells r5.1.fed))), box b2 27 [.int .i64 p1.pfs, .int .i64 p1.obj, .int .i64 p1.off], box b1 25 ((.slice A1 p0.run.length c1) :: (DA16.cells p0.roles ++ (DA16.cells p0.fed)))] w') ?_ ?_
        ·
         refine T.block ?_
         refine T.iter (fun x1 a w' => ∃ (V9 : View), View.le V8 V9 ∧ Fr 63 [(1, .int .i64 p1.pfs), (2, .pointer (some ⟨b1, 0, none⟩)), (3, .pointer (some ⟨b6, 0, none⟩)), (14, .int .i64 x1)] a ∧ Hp w V9 [box b6 25 ((.slice A6 r5.1.run.length c6) :: (DA16.cells r5.1.roles ++ (DA16.cells r5.1.fed))), box b5 25 ((.slice A6 r5.1.run.length c6) :: (DA16.cells r5.1.roles ++ (DA16.cells r5.1.fed))), box b2 27 [.int .i64 p1.pfs, .int .i64 p1.obj, .int .i64 p1.off], box b1 25 ((.slice A1 p0.run.length c1) :: (DA16.cells p0.roles ++ (DA16.cells p0.fed)))] w') hz1 ?_ ?_
         ·
          exact fun a w' hf hh => Exists.intro V8 (And.intro (View.le_refl _) (And.intro (((((Fr.nil hf).pick hf 14 rfl).pick hf 3 rfl).pick hf 2 rfl).pick hf 1 rfl) (hh.sub (.cons_cons _ (.cons_cons _ (.cons _ (.cons_cons _ (.cons_cons _ List.Sublist.slnil))))))))
         ·
          rintro x1 y1 hY1 hr6 a w' ⟨V9, hV9, hf, hh⟩
          refine (?_ : T 63 w V9 [box b6 25 ((.slice A6 r5.1.run.length c6) :: (DA16.cells r5.1.roles ++ (DA16.cells r5.1.fed))), box b5 25 ((.slice A6 r5.1.run.length c6) :: (DA16.cells r5.1.roles ++ (DA16.cells r5.1.fed))), box b2 27 [.int .i64 p1.pfs, .int .i64 p1.obj, .int .i64 p1.off], box b1 25 ((.slice A1 p0.run.length c1) :: (DA16.cells p0.roles ++ (DA16.cells p0.fed)))] [(1, .int .i64 p1.pfs), (2, .pointer (some ⟨b1, 0, none⟩)), (3, .pointer (some ⟨b6, 0, none⟩)), (14, .int .i64 x1)] _) a w' hf hh
          clear hf hh
          try dsimp only at hY1
          refine T.seq ?_
          refine T.region ?_
          refine T.pure (.bool (decide (x1 < 16))) (by kernel_rfl) (fun _ => by kernel_rfl) ?_
          refine T.nil ?_
          refine T.seq ?_
          refine T.cond (decide (x1 < 16)) (by kernel_rfl) (by kernel_rfl) (fun hc4 => ?_) (fun hc4 => ?_)
          ·
           rw [hc4, cond_true] at hY1
           refine T.skip_code ?_
           refine T.seq ?_
           refine T.block ?_
           refine T.seq ?_
           refine T.region ?_
           refine T.pure (.int .i64 x1) (by kernel_rfl) (fun _ => by kernel_rfl) ?_
           refine T.pure (.int .i64 x1) (by kernel_rfl) (fun _ => by kernel_rfl) ?_
           refine T.nil ?_
           refine T.seq ?_
           refine T.region ?_
           refine T.pure (.pointer (some ⟨b1, 0, none⟩)) (by kernel_rfl) (fun _ => by kernel_rfl) ?_
           refine T.look (.slice A1 p0.run.length c1) (by kernel_rfl) (fun w' hh => exec_load1 rfl rfl (by kernel_rfl) (hh.cellBox (i := 3) (by rfl) 0)) ?_
           refine T.pure (.int .i64 x1) (by kernel_rfl) (fun _ => by kernel_rfl) ?_
           obtain ⟨r7, hb7, hY1⟩ := Option.bind_eq_some_iff.1 hY1
           refine T.step (W1.call (vT2 (vSc (eList eElem)) (vSc (eList eElem))) r7 8 #[.slice A1 p0.run.length c1, .int .i64 x1] (by kernel_rfl) (fun _ => by kernel_rfl) (fun w' hh => annalref_Realm_l F p0.run x1 r7 hb7 w' A1 c1 (SlOk.mono (SlOk.mono hs1 (View.le_trans (View.le_trans (View.le_trans (View.le_trans (View.le_trans (View.le_trans hV1 hV2) hV3) hV4) hV5) hV8) hV9)) hh.view)) ?_)
           intro u V11 hV11 hu
           obtain ⟨u7, u8, rfl, hu7, hu8⟩ := vT2_elim hu
           obtain ⟨A7, c7, rfl, hs7⟩ := vlist_elim hu7
           obtain ⟨A8, c8, rfl, hs8⟩ := vlist_elim hu8
           refine T.pure (.tuple #[.slice A7 r7.1.length c7, .slice A8 r7.2.length c8]) (by kernel_rfl) (fun _ => by kernel_rfl) ?_
           refine T.pure (.slice A7 r7.1.length c7) (by kernel_rfl) (fun _ => by kernel_rfl) ?_
           refine T.pure (.slice A8 r7.2.length c8) (by kernel_rfl) (fun _ => by kernel_rfl) ?_
           refine T.pure (.slice A7 r7.1.length c7) (by kernel_rfl) (fun _ => by kernel_rfl) ?_
           refine T.pure (.slice A8 r7.2.length c8) (by kernel_rfl) (fun _ => by kernel_rfl) ?_
           refine T.nil ?_
           refine T.seq ?_
           refine T.region ?_
           refine T.pure (.pointer (some ⟨b6, 0, none⟩)) (by kernel_rfl) (fun _ => by kernel_rfl) ?_
           refine T.look (.slice A6 r5.1.run.length c6) (by kernel_rfl) (fun w' hh => exec_load1 rfl rfl (by kernel_rfl) (hh.cellBox (i := 0) (by rfl) 0)) ?_
           refine T.pure (.int .i64 x1) (by kernel_rfl) (fun _ => by kernel_rfl) ?_
           obtain ⟨r8, hb8, hY1⟩ := Option.bind_eq_some_iff.1 hY1
           refine T.step (W1.call (vT2 (vSc (eList eElem)) (vSc (eList eElem))) r8 8 #[.slice A6 r5.1.run.length c6, .int .i64 x1] (by kernel_rfl) (fun _ => by kernel_rfl) (fun w' hh => annalref_Realm_l F r5.1.run x1 r8 hb8 w' A6 c6 (SlOk.mono (SlOk.mono hs6 (View.le_trans (made_le _ _) (View.le_trans (View.le_trans hV8 hV9) hV11))) hh.view)) ?_)
           intro u V12 hV12 hu
           obtain ⟨u9, u10, rfl, hu9, hu10⟩ := vT2_elim hu
           obtain ⟨A9, c9, rfl, hs9⟩ := vlist_elim hu9
           obtain ⟨A10, c10, rfl, hs10⟩ := vlist_elim hu10
           refine T.pure (.tuple #[.slice A9 r8.1.length c9, .slice A10 r8.2.length c10]) (by kernel_rfl) (fun _ => by kernel_rfl) ?_
           refine T.pure (.slice A9 r8.1.length c9) (by kernel_rfl) (fun _ => by kernel_rfl) ?_
           refine T.pure (.slice A10 r8.2.length c10) (by kernel_rfl) (fun _ => by kernel_rfl) ?_
           refine T.pure (.slice A9 r8.1.length c9) (by kernel_rfl) (fun _ => by kernel_rfl) ?_
           refine T.pure (.slice A10 r8.2.length c10) (by kernel_rfl) (fun _ => by kernel_rfl) ?_
           refine T.nil ?_
           obtain ⟨z3, hX3, hY1⟩ := Option.bind_eq_some_iff.1 hY1
           refine T.cut (fun a w' => Fr 63 [(1, .int .i64 p1.pfs), (2, .pointer (some ⟨b1, 0, none⟩)), (3, .pointer (some ⟨b6, 0, none⟩)), (14, .int .i64 x1), (61, .bool z3)] a ∧ Hp w V12 [box b6 25 ((.slice A6 r5.1.run.length c6) :: (DA16.cells r5.1.roles ++ (DA16.cells r5.1.fed))), box b5 25 ((.slice A6 r5.1.run.length c6) :: (DA16.cells r5.1.roles ++ (DA16.cells r5.1.fed))), box b2 27 [.int .i64 p1.pfs, .int .i64 p1.obj, .int .i64 p1.off], box b1 25 ((.slice A1 p0.run.length c1) :: (DA16.cells p0.roles ++ (DA16.cells p0.fed)))] w') ?_ ?_
           ·
            refine T.quiet (by kernel_rfl) (by kernel_rfl) ?_
            refine TQ.pure (.int .i64 x1) (by kernel_rfl) (fun _ => by kernel_rfl) ?_
            refine TQ.pure (.int .i64 p1.pfs) (by kernel_rfl) (fun _ => by kernel_rfl) ?_
            refine TQ.pure (.bool (x1 != p1.pfs)) (by kernel_rfl) (fun _ => by kernel_rfl) ?_
            refine TQ.pure (.bool (x1 != p1.pfs)) (by kernel_rfl) (fun _ => by kernel_rfl) ?_
            cases hg3 : (x1 != p1.pfs)
            ·
             skip
             rw [hg3, cond_false] at hX3
             refine TQ.pass (by kernel_rfl) (by kernel_rfl) ?_
             refine TQ.pass (by kernel_rfl) (by kernel_rfl) ?_
             refine TQ.pass (by kernel_rfl) (by kernel_rfl) ?_
             refine TQ.pass (by kernel_rfl) (by kernel_rfl) ?_
             refine TQ.pass (by kernel_rfl) (by kernel_rfl) ?_
             refine TQ.pass (by kernel_rfl) (by kernel_rfl) ?_
             refine TQ.pass (by kernel_rfl) (by kernel_rfl) ?_
             refine TQ.pass (by kernel_rfl) (by kernel_rfl) ?_
             refine TQ.pass (by kernel_rfl) (by kernel_rfl) ?_
             refine TQ.pass (by kernel_rfl) (by kernel_rfl) ?_
             refine TQ.pass (by kernel_rfl) (by kernel_rfl) ?_
             refine TQ.pass (by kernel_rfl) (by kernel_rfl) ?_
             refine TQ.pass (by kernel_rfl) (by kernel_rfl) ?_
             refine TQ.pass (by kernel_rfl) (by kernel_rfl) ?_
             refine TQ.pass (by kernel_rfl) (by kernel_rfl) ?_
             refine TQ.pass (by kernel_rfl) (by kernel_rfl) ?_
             refine TQ.pass (by kernel_rfl) (by kernel_rfl) ?_
             refine TQ.pass (by kernel_rfl) (by kernel_rfl) ?_
             refine TQ.pass (by kernel_rfl) (by kernel_rfl) ?_
             refine TQ.pass (by kernel_rfl) (by kernel_rfl) ?_
             refine TQ.pass (by kernel_rfl) (by kernel_rfl) ?_
             refine TQ.pass (by kernel_rfl) (by kernel_rfl) ?_
             refine TQ.pass (by kernel_rfl) (by kernel_rfl) ?_
             refine TQ.pass (by kernel_rfl) (by kernel_rfl) ?_
             refine TQ.pass (by kernel_rfl) (by kernel_rfl) ?_
             refine TQ.pass (by kernel_rfl) (by kernel_rfl) ?_
             refine TQ.pure (.bool false) (by kernel_rfl) (fun _ => by kernel_rfl) ?_
             refine TQ.nil ?_
             cases hX3
             exact fun a w' hf hh => And.intro ((((((Fr.nil hf).pick hf 61 rfl).pick hf 14 rfl).pick hf 3 rfl).pick hf 2 rfl).pick hf 1 rfl) (hh.sub (.cons_cons _ (.cons_cons _ (.cons_cons _ (.cons_cons _ List.Sublist.slnil)))))
            ·
             skip
             rw [hg3, cond_true] at hX3
             refine TQ.pure (.slice A7 r7.1.length c7) (by kernel_rfl) (fun _ => by kernel_rfl) ?_
             refine TQ.pure (.slice A9 r8.1.length c9) (by kernel_rfl) (fun _ => by kernel_rfl) ?_
             obtain ⟨r9, hb9, hX3⟩ := Option.bind_eq_some_iff.1 hX3
             refine TQ.call (vSc eBool) r9 9 #[.slice A7 r7.1.length c7, .slice A9 r8.1.length c9] (.bool r9) (fun V u hu => sureBool V u _ hu) (by kernel_rfl) (fun _ => by kernel_rfl) (fun w' hh => slices_Equal_Elem_l F r7.1 r8.1 r9 hb9 w' A7 c7 (SlOk.mono (SlOk.mono hs7 (View.le_trans (made_le _ _) hV12)) hh.view) A9 c9 (SlOk.mono (SlOk.mono hs9 (View.le_trans (made_le _ _) (View.le_refl _))) hh.view)) ?_
             refine TQ.pure (.bool (!r9)) (by kernel_rfl) (fun _ => by kernel_rfl) ?_
             refine TQ.pure (.bool (!r9)) (by kernel_rfl) (fun _ => by kernel_rfl) ?_
             cases hg4 : (!r9)
             ·
              skip
              rw [hg4, cond_false] at hX3
              refine TQ.pure (.int .i64 x1) (by kernel_rfl) (fun _ => by kernel_rfl) ?_
              refine TQ.pure (.pointer (some ⟨b6, 1, none⟩)) (by kernel_rfl) (fun _ => by kernel_rfl) ?_
              obtain ⟨e1, hb10, hX3⟩ := Option.bind_eq_some_iff.1 hX3
              obtain ⟨hi1, hi2, hi3⟩ := idx_some hb10
              refine TQ.look (.pointer (some ((⟨b6, 1, none⟩ : Addr).add (x1.toNat * 1)))) (by kernel_rfl) (fun w' hh => exec_arrAddr (e := 3) rfl rfl rfl (by kernel_rfl) (by kernel_rfl) hi1 hi2) ?_
              refine TQ.look (.int .i64 e1) (by kernel_rfl) (fun w' hh => exec_load1 rfl rfl (by kernel_rfl) (hh.arr_at (i := 0) (by rfl) 1 r5.1.roles rfl hi3)) ?_
              refine TQ.pure (.int .i64 x1) (by kernel_rfl) (fun _ => by kernel_rfl) ?_
              refine TQ.pure (.pointer (some ⟨b1, 1, none⟩)) (by kernel_rfl) (fun _ => by kernel_rfl) ?_
              obtain ⟨e2, hb11, hX3⟩ := Option.bind_eq_some_iff.1 hX3
              obtain ⟨hi4, hi5, hi6⟩ := idx_some hb11
              refine TQ.look (.pointer (some ((⟨b1, 1, none⟩ : Addr).add (x1.toNat * 1)))) (by kernel_rfl) (fun w' hh => exec_arrAddr (e := 3) rfl rfl rfl (by kernel_rfl) (by kernel_rfl) hi4 hi5) ?_
              refine TQ.look (.int .i64 e2) (by kernel_rfl) (fun w' hh => exec_load1 rfl rfl (by kernel_rfl) (hh.arr_at (i := 3) (by rfl) 1 p0.roles rfl hi6)) ?_
              refine TQ.pure (.bool (e1 != e2)) (by kernel_rfl) (fun _ => by kernel_rfl) ?_
              refine TQ.pure (.bool (e1 != e2)) (by kernel_rfl) (fun _ => by kernel_rfl) ?_
              refine TQ.pure (.bool (e1 != e2)) (by kernel_rfl) (fun _ => by kernel_rfl) ?_
              cases hg5 : (e1 != e2)
              ·
               skip
               rw [hg5, cond_false] at hX3
               refine TQ.pure (.int .i64 x1) (by kernel_rfl) (fun _ => by kernel_rfl) ?_
               refine TQ.pure (.pointer (some ⟨b6, 17, none⟩)) (by kernel_rfl) (fun _ => by kernel_rfl) ?_
               obtain ⟨e3, hb12, hX3⟩ := Option.bind_eq_some_iff.1 hX3
               obtain ⟨hi7, hi8, hi9⟩ := idx_some hb12
               refine TQ.look (.pointer (some ((⟨b6, 17, none⟩ : Addr).add (x1.toNat * 1)))) (by kernel_rfl) (fun w' hh => exec_arrAddr (e := 3) rfl rfl rfl (by kernel_rfl) (by kernel_rfl) hi7 hi8) ?_
               refine TQ.look (.int .i64 e3) (by kernel_rfl) (fun w' hh => exec_load1 rfl rfl (by kernel_rfl) (hh.arr_at (i := 0) (by rfl) 17 r5.1.fed rfl hi9)) ?_
               refine TQ.pure (.int .i64 x1) (by kernel_rfl) (fun _ => by kernel_rfl) ?_
               refine TQ.pure (.pointer (some ⟨b1, 17, none⟩)) (by kernel_rfl) (fun _ => by kernel_rfl) ?_
               obtain ⟨e4, hb13, hX3⟩ := Option.bind_eq_some_iff.1 hX3
               obtain ⟨hi10, hi11, hi12⟩ := idx_some hb13
               refine TQ.look (.pointer (some ((⟨b1, 17, none⟩ : Addr).add (x1.toNat * 1)))) (by kernel_rfl) (fun w' hh => exec_arrAddr (e := 3) rfl rfl rfl (by kernel_rfl) (by kernel_rfl) hi10 hi11) ?_
               refine TQ.look (.int .i64 e4) (by kernel_rfl) (fun w' hh => exec_load1 rfl rfl (by kernel_rfl) (hh.arr_at (i := 3) (by rfl) 17 p0.fed rfl hi12)) ?_
               refine TQ.pure (.bool (e3 != e4)) (by kernel_rfl) (fun _ => by kernel_rfl) ?_
               refine TQ.pure (.bool (e3 != e4)) (by kernel_rfl) (fun _ => by kernel_rfl) ?_
               refine TQ.pure (.bool (e3 != e4)) (by kernel_rfl) (fun _ => by kernel_rfl) ?_
               refine TQ.nil ?_
               cases hX3
               exact fun a w' hf hh => And.intro ((((((Fr.nil hf).pick hf 61 rfl).pick hf 14 rfl).pick hf 3 rfl).pick hf 2 rfl).pick hf 1 rfl) (hh.sub (.cons_cons _ (.cons_cons _ (.cons_cons _ (.cons_cons _ List.Sublist.slnil)))))
              ·
               skip
               rw [hg5, cond_true] at hX3
               refine TQ.pass (by kernel_rfl) (by kernel_rfl) ?_
               refine TQ.pass (by kernel_rfl) (by kernel_rfl) ?_
               refine TQ.pass (by kernel_rfl) (by kernel_rfl) ?_
               refine TQ.pass (by kernel_rfl) (by kernel_rfl) ?_
               refine TQ.pass (by kernel_rfl) (by kernel_rfl) ?_
               refine TQ.pass (by kernel_rfl) (by kernel_rfl) ?_
               refine TQ.pass (by kernel_rfl) (by kernel_rfl) ?_
               refine TQ.pass (by kernel_rfl) (by kernel_rfl) ?_
               refine TQ.pass (by kernel_rfl) (by kernel_rfl) ?_
               refine TQ.pure (.bool true) (by kernel_rfl) (fun _ => by kernel_rfl) ?_
               refine TQ.pure (.bool true) (by kernel_rfl) (fun _ => by kernel_rfl) ?_
               refine TQ.nil ?_
               cases hX3
               exact fun a w' hf hh => And.intro ((((((Fr.nil hf).pick hf 61 rfl).pick hf 14 rfl).pick hf 3 rfl).pick hf 2 rfl).pick hf 1 rfl) (hh.sub (.cons_cons _ (.cons_cons _ (.cons_cons _ (.cons_cons _ List.Sublist.slnil)))))
             ·
              skip
              rw [hg4, cond_true] at hX3
              refine TQ.pass (by kernel_rfl) (by kernel_rfl) ?_
              refine TQ.pass (by kernel_rfl) (by kernel_rfl) ?_
              refine TQ.pass (by kernel_rfl) (by kernel_rfl) ?_
              refine TQ.pass (by kernel_rfl) (by kernel_rfl) ?_
              refine TQ.pass (by kernel_rfl) (by kernel_rfl) ?_
              refine TQ.pass (by kernel_rfl) (by kernel_rfl) ?_
              refine TQ.pass (by kernel_rfl) (by kernel_rfl) ?_
              refine TQ.pass (by kernel_rfl) (by kernel_rfl) ?_
              refine TQ.pass (by kernel_rfl) (by kernel_rfl) ?_
              refine TQ.pure (.bool true) (by kernel_rfl) (fun _ => by kernel_rfl) ?_
              refine TQ.pure (.bool true) (by kernel_rfl) (fun _ => by kernel_rfl) ?_
              refine TQ.pass (by kernel_rfl) (by kernel_rfl) ?_
              refine TQ.pass (by kernel_rfl) (by kernel_rfl) ?_
              refine TQ.pass (by kernel_rfl) (by kernel_rfl) ?_
              refine TQ.pass (by kernel_rfl) (by kernel_rfl) ?_
              refine TQ.pass (by kernel_rfl) (by kernel_rfl) ?_
              refine TQ.pass (by kernel_rfl) (by kernel_rfl) ?_
              refine TQ.pass (by kernel_rfl) (by kernel_rfl) ?_
              refine TQ.pass (by kernel_rfl) (by kernel_rfl) ?_
              refine TQ.pass (by kernel_rfl) (by kernel_rfl) ?_
              refine TQ.pure (.bool true) (by kernel_rfl) (fun _ => by kernel_rfl) ?_
              refine TQ.pure (.bool true) (by kernel_rfl) (fun _ => by kernel_rfl) ?_
              refine TQ.nil ?_
              cases hX3
              exact fun a w' hf hh => And.intro ((((((Fr.nil hf).pick hf 61 rfl).pick hf 14 rfl).pick hf 3 rfl).pick hf 2 rfl).pick hf 1 rfl) (hh.sub (.cons_cons _ (.cons_cons _ (.cons_cons _ (.cons_cons _ List.Sublist.slnil)))))
           ·
            rintro a w' ⟨hf, hh⟩
            refine (?_ : T 63 w V12 [box b6 25 ((.slice A6 r5.1.run.length c6) :: (DA16.cells r5.1.roles ++ (DA16.cells r5.1.fed))), box b5 25 ((.slice A6 r5.1.run.length c6) :: (DA16.cells r5.1.roles ++ (DA16.cells r5.1.fed))), box b2 27 [.int .i64 p1.pfs, .int .i64 p1.obj, .int .i64 p1.off], box b1 25 ((.slice A1 p0.run.length c1) :: (DA16.cells p0.roles ++ (DA16.cells p0.fed)))] [(1, .int .i64 p1.pfs), (2, .pointer (some ⟨b1, 0, none⟩)), (3, .pointer (some ⟨b6, 0, none⟩)), (14, .int .i64 x1), (61, .bool z3)] _) a w' hf hh
            clear hf hh
            refine T.cond z3 (by kernel_rfl) (by kernel_rfl) (fun hc5 => ?_) (fun hc5 => ?_)
            ·
             rw [hc5, cond_true] at hY1
             refine T.seq ?_
             refine T.region ?_
             refine T.pure (.bool false) (by kernel_rfl) (fun _ => by kernel_rfl) ?_
             refine T.nil ?_
             cases hY1
             cases (hr6 _ rfl)
             try dsimp only at hX2
             cases hX2
             refine T.ret rfl ?_
             repeat first | refine T.unthen ?_ | refine T.unblock ?_
             exact T.ret1 rfl (ResIs.tmp rfl) fun w' hh => ⟨_, rfl, Exists.intro V12 (And.intro (View.le_trans (View.le_trans (View.le_trans hV8 hV9) hV11) hV12) (And.intro rfl (hh.sub (.cons _ (.cons_cons _ (.cons_cons _ (.cons_cons _ List.Sublist.slnil)))))))⟩
            ·
             rw [hc5, cond_false] at hY1
             refine T.skip_code ?_
             refine T.region ?_
             refine T.pure (.int .i64 (IntKind.i64.wrap (x1 + 1))) (by kernel_rfl) (fun _ => by kernel_rfl) ?_
             refine T.pure (.int .i64 (IntKind.i64.wrap (x1 + 1))) (by kernel_rfl) (fun _ => by kernel_rfl) ?_
             refine T.nil ?_
             cases hY1
             exact fun a w' hf hh => Exists.intro (IntKind.i64.wrap (x1 + 1)) (And.intro rfl (Exists.intro V12 (And.intro (View.le_trans (View.le_trans hV9 hV11) hV12) (And.intro (((((Fr.nil hf).pick hf 14 rfl).pick hf 3 rfl).pick hf 2 rfl).pick hf 1 rfl) (hh.sub (.cons_cons _ (.cons_cons _ (.cons_cons _ (.cons_cons _ List.Sublist.slnil)))))))))
          ·
           rw [hc4, cond_false] at hY1
           refine T.exit ?_
           cases hY1
           cases (hr6 _ rfl)
           exact fun a w' hf hh => And.intro rfl (Exists.intro V9 (And.intro hV9 (And.intro (Fr.nil hf) (hh.sub (.cons _ (.cons_cons _ (.cons_cons _ (.cons_cons _ List.Sublist.slnil))))))))
        ·
         rintro a w' ⟨rfl, V10, hV10, hf, hh⟩
         try dsimp only at hX2
         refine (?_ : T 63 w V10 [box b5 25 ((.slice A6 r5.1.run.length c6) :: (DA16.cells r5.1.roles ++ (DA16.cells r5.1.fed))), box b2 27 [.int .i64 p1.pfs, .int .i64 p1.obj, .int .i64 p1.off], box b1 25 ((.slice A1 p0.run.length c1) :: (DA16.cells p0.roles ++ (DA16.cells p0.fed)))] [] _) a w' hf hh
         clear hf hh
         refine T.seq ?_
         refine T.region ?_
         refine T.pure (.bool true) (by kernel_rfl) (fun _ => by kernel_rfl) ?_
         refine T.nil ?_
         cases hX2
         refine T.ret rfl ?_
         repeat first | refine T.unthen ?_ | refine T.unblock ?_
         exact T.ret1 rfl (ResIs.tmp rfl) fun w' hh => ⟨_, rfl, Exists.intro V10 (And.intro (View.le_trans hV8 hV10) (And.intro rfl (hh.sub (.cons_cons _ (.cons_cons _ (.cons_cons _ List.Sublist.slnil))))))⟩
      ·
       rintro v w' ⟨V7, hV7, rfl, hh⟩
       refine ⟨V7, [box b5 25 ((.slice A6 r5.1.run.length c6) :: (DA16.cells r5.1.roles ++ (DA16.cells r5.1.fed))), box b2 27 [.int .i64 p1.pfs, .int .i64 p1.obj, .int .i64 p1.off], box b1 25 ((.slice A1 p0.run.length c1) :: (DA16.cells p0.roles ++ (DA16.cells p0.fed)))], hh, ?_⟩
       clear hh
       refine T.pure (.bool (!z2)) (by kernel_rfl) (fun _ => by kernel_rfl) ?_
       refine T.pure (.bool (!z2)) (by kernel_rfl) (fun _ => by kernel_rfl) ?_
       refine T.nil ?_
       cases hX1
       exact fun a w' hf hh => Exists.intro V7 (And.intro hV7 (And.intro (((((((Fr.nil hf).pick hf 62 rfl).pick hf 15 rfl).pick hf 6 rfl).pick hf 5 rfl).pick hf 4 rfl).pick hf 3 rfl) (hh.sub (.cons _ (.cons_cons _ (.cons_cons _ List.Sublist.slnil))))))
    ·
     rintro a w' ⟨V6, hV6, hf, hh⟩
     refine (?_ : T 96 w V6 [box b2 27 [.int .i64 p1.pfs, .int .i64 p1.obj, .int .i64 p1.off], box b1 25 ((.slice A1 p0.run.length c1) :: (DA16.cells p0.roles ++ (DA16.cells p0.fed)))] [(3, .int .i64 p3), (4, .string p4), (5, .pointer (some ⟨b1, 0, none⟩)), (6, .pointer (some ⟨b2, 0, none⟩)), (15, .func (.func 6) #[] #[.pointer (some ⟨b1, 0, none⟩)]), (62, .bool z1)] _) a w' hf hh
     clear hf hh
     refine T.cond z1 (by kernel_rfl) (by kernel_rfl) (fun hc6 => ?_) (fun hc6 => ?_)
     ·
      rw [hc6, cond_true] at hF
      refine T.seq ?_
      refine T.region ?_
      refine T.pure (.bool false) (by kernel_rfl) (fun _ => by kernel_rfl) ?_
      refine T.nil ?_
      cases hF
      refine T.ret rfl ?_
      exact T.ret1 rfl (ResIs.tmp rfl) fun w' hh => ⟨_, rfl, hh.below, (show _ from rfl)⟩
     ·
      rw [hc6, cond_false] at hF
      refine T.skip_code ?_
      refine T.seq ?_
      refine T.seq ?_
      refine T.region ?_
      refine T.look (.agg (List.toArray ((.slice A1 p0.run.length c1) :: (DA16.cells p0.roles ++ (DA16.cells p0.fed))))) (by kernel_rfl) (fun w' hh => exec_loadN (cs := ((.slice A1 p0.run.length c1) :: (DA16.cells p0.roles ++ (DA16.cells p0.fed)))) rfl rfl (by kernel_rfl) (by kernel_rfl) (fun j u hj => (hh.box_at (i := 1) (cs := ((.slice A1 p0.run.length c1) :: (DA16.cells p0.roles ++ (DA16.cells p0.fed)))) (by rfl) 0 j).trans (seg_at (n := 33) (by rfl) hj))) ?_
      refine T.look (.agg #[.int .i64 p1.pfs, .int .i64 p1.obj, .int .i64 p1.off]) (by kernel_rfl) (fun w' hh => exec_loadN (cs := [.int .i64 p1.pfs, .int .i64 p1.obj, .int .i64 p1.off]) rfl rfl (by kernel_rfl) (by kernel_rfl) (fun j u hj => (hh.box_at (i := 0) (cs := [.int .i64 p1.pfs, .int .i64 p1.obj, .int .i64 p1.off]) (by rfl) 0 j).trans (seg_at (n := 3) (by rfl) hj))) ?_
      refine T.pure (.int .i64 p3) (by kernel_rfl) (fun _ => by kernel_rfl) ?_
      obtain ⟨r10, hb14, hF⟩ := Option.bind_eq_some_iff.1 hF
      refine T.step (W1.call (vT2 (vAg eBook) (vSc eInt)) r10 10 #[.agg (List.toArray ((.slice A1 p0.run.length c1) :: (DA16.cells p0.roles ++ (DA16.cells p0.fed)))), .agg #[.int .i64 p1.pfs, .int .i64 p1.obj, .int .i64 p1.off], .int .i64 p3] (by kernel_rfl) (fun _ => by kernel_rfl) (fun w' hh => realm_Cut_l F p0 p1 p3 r10 hb14 w' A1 c1 (SlOk.mono (SlOk.mono hs1 (View.le_trans (View.le_trans (View.le_trans (View.le_trans (View.le_trans hV1 hV2) hV3) hV4) hV5) hV6)) hh.view)) ?_)
      intro u V13 hV13 hu
      obtain ⟨u11, u12, rfl, hu11, hu12⟩ := vT2_elim hu
      obtain ⟨cs6, rfl, hr7⟩ := vagg_elim hu11
      obtain ⟨A11, c11, rfl, hs11⟩ := hr7
      obtain rfl := sureInt _ _ _ hu12
      refine T.pure (.tuple #[.agg (List.toArray ((.slice A11 r10.1.run.length c11) :: (DA16.cells r10.1.roles ++ (DA16.cells r10.1.fed)))), .int .i64 r10.2]) (by kernel_rfl) (fun _ => by kernel_rfl) ?_
      refine T.pure (.agg (List.toArray ((.slice A11 r10.1.run.length c11) :: (DA16.cells r10.1.roles ++ (DA16.cells r10.1.fed))))) (by kernel_rfl) (fun _ => by kernel_rfl) ?_
      refine T.pure (.int .i64 r10.2) (by kernel_rfl) (fun _ => by kernel_rfl) ?_
      refine T.step (W1.new 25 ((.slice none 0 0) :: (DA16.cells (DA16.mk 0 0 0 0 0 0 0 0 0 0 0 0 0 0 0 0) ++ (DA16.cells (DA16.mk 0 0 0 0 0 0 0 0 0 0 0 0 0 0 0 0)))) (fun b => .pointer (some ⟨b, 0, none⟩)) (by kernel_rfl) (fun _ => by kernel_rfl) (fun b7 => ?_))
      refine T.step (W1.store 0 ((.slice A11 r10.1.run.length c11) :: (DA16.cells r10.1.roles ++ (DA16.cells r10.1.fed))) [box b7 25 ((.slice A11 r10.1.run.length c11) :: (DA16.cells r10.1.roles ++ (DA16.cells r10.1.fed))), box b2 27 [.int .i64 p1.pfs, .int .i64 p1.obj, .int .i64 p1.off], box b1 25 ((.slice A1 p0.run.length c1) :: (DA16.cells p0.roles ++ (DA16.cells p0.fed)))] (by rfl) rfl (by kernel_rfl) (fun w' hw => exec_store (vs := ((.slice A11 r10.1.run.length c11) :: (DA16.cells r10.1.roles ++ (DA16.cells r10.1.fed)))) rfl rfl rfl rfl (by kernel_rfl) (one_of rfl) (Nat.le_of_ble_eq_true (by rfl)) rfl hw) ?_)
      refine T.pure (.int .i64 r10.2) (by kernel_rfl) (fun _ => by kernel_rfl) ?_
      refine T.nil ?_
      obtain ⟨z4, hX4, hF⟩ := Option.bind_eq_some_iff.1 hF
      refine T.cut (fun a w' => ∃ (V14 : View), View.le V13 V14 ∧ Fr 96 [(4, .string p4), (5, .pointer (some ⟨b1, 0, none⟩)), (15, .func (.func 6) #[] #[.pointer (some ⟨b1, 0, none⟩)]), (79, .bool z4)] a ∧ Hp w V14 [box b1 25 ((.slice A1 p0.run.length c1) :: (DA16.cells p0.roles ++ (DA16.cells p0.fed)))] w') ?_ ?_
      ·
       refine T.region ?_
       refine T.pure (.int .i64 r10.2) (by kernel_rfl) (fun _ => by kernel_rfl) ?_
       refine T.pure (.bool (r10.2 == 0)) (by kernel_rfl) (fun _ => by kernel_rfl) ?_
       refine T.pure (.bool (r10.2 == 0)) (by kernel_rfl) (fun _ => by kernel_rfl) ?_
       cases hg6 : (r10.2 == 0)
       ·
        skip
        rw [hg6, cond_false] at hX4
        refine T.pass (by kernel_rfl) (by kernel_rfl) ?_
        refine T.pass (by kernel_rfl) (by kernel_rfl) ?_
        refine T.pass (by kernel_rfl) (by kernel_rfl) ?_
        refine T.pass (by kernel_rfl) (by kernel_rfl) ?_
        refine T.pass (by kernel_rfl) (by kernel_rfl) ?_
        refine T.pass (by kernel_rfl) (by kernel_rfl) ?_
        refine T.pure (.bool false) (by kernel_rfl) (fun _ => by kernel_rfl) ?_
        refine T.nil ?_
        cases hX4
        exact fun a w' hf hh => Exists.intro V13 (And.intro (View.le_refl _) (And.intro (((((Fr.nil hf).pick hf 79 rfl).pick hf 15 rfl).pick hf 5 rfl).pick hf 4 rfl) (hh.sub (.cons _ (.cons _ (.cons_cons _ List.Sublist.slnil))))))
       ·
        skip
        rw [hg6, cond_true] at hX4
        refine T.pure (.func (.func 6) #[] #[.pointer (some ⟨b1, 0, none⟩)]) (by kernel_rfl) (fun _ => by kernel_rfl) ?_
        refine T.look (.agg (List.toArray ((.slice A11 r10.1.run.length c11) :: (DA16.cells r10.1.roles ++ (DA16.cells r10.1.fed))))) (by kernel_rfl) (fun w' hh => exec_loadN (cs := ((.slice A11 r10.1.run.length c11) :: (DA16.cells r10.1.roles ++ (DA16.cells r10.1.fed)))) rfl rfl (by kernel_rfl) (by kernel_rfl) (fun j u hj => (hh.box_at (i := 0) (cs := ((.slice A11 r10.1.run.length c11) :: (DA16.cells r10.1.roles ++ (DA16.cells r10.1.fed)))) (by rfl) 0 j).trans (seg_at (n := 33) (by rfl) hj))) ?_
        refine T.pure (.pointer (some ⟨b2, 0, none⟩)) (by kernel_rfl) (fun _ => by kernel_rfl) ?_
        refine T.look (.int .i64 p1.pfs) (by kernel_rfl) (fun w' hh => exec_load1 rfl rfl (by kernel_rfl) (hh.cellBox (i := 1) (by rfl) 0)) ?_
        obtain ⟨z5, hX5, hX4⟩ := Option.bind_eq_some_iff.1 hX4
        refine T.step (W1.within 6 [.agg (List.toArray ((.slice A11 r10.1.run.length c11) :: (DA16.cells r10.1.roles ++ (DA16.cells r10.1.fed)))), .int .i64 p1.pfs, .pointer (some ⟨b1, 0, none⟩)] (fun v w' => ∃ (V15 : View), View.le V13 V15 ∧ v = .bool z5 ∧ Hp w V15 [box b7 25 ((.slice A11 r10.1.run.length c11) :: (DA16.cells r10.1.roles ++ (DA16.cells r10.1.fed))), box b2 27 [.int .i64 p1.pfs, .int .i64 p1.obj, .int .i64 p1.off], box b1 25 ((.slice A1 p0.run.length c1) :: (DA16.cells p0.roles ++ (DA16.cells p0.fed)))] w') Try.func6 rfl rfl (by kernel_rfl) (fun _ => by kernel_rfl) rfl ?_ ?_)
        ·
         refine T.seq ?_
         refine T.region ?_
         refine T.step (W1.new 25 ((.slice A11 r10.1.run.length c11) :: (DA16.cells r10.1.roles ++ (DA16.cells r10.1.fed))) (fun b => .pointer (some ⟨b, 0, none⟩)) (by kernel_rfl) (fun _ => by kernel_rfl) (fun b8 => ?_))
         refine T.pure (.bool false) (by kernel_rfl) (fun _ => by kernel_rfl) ?_
         refine T.nil ?_
         refine T.seq ?_
         refine T.seq ?_
         refine T.region ?_
         refine T.look (.agg (List.toArray ((.slice A11 r10.1.run.length c11) :: (DA16.cells r10.1.roles ++ (DA16.cells r10.1.fed))))) (by kernel_rfl) (fun w' hh => exec_loadN (cs := ((.slice A11 r10.1.run.length c11) :: (DA16.cells r10.1.roles ++ (DA16.cells r10.1.fed)))) rfl rfl (by kernel_rfl) (by kernel_rfl) (fun j u hj => (hh.box_at (i := 0) (cs := ((.slice A11 r10.1.run.length c11) :: (DA16.cells r10.1.roles ++ (DA16.cells r10.1.fed)))) (by rfl) 0 j).trans (seg_at (n := 33) (by rfl) hj))) ?_
         obtain ⟨r11, hb15, hX5⟩ := Option.bind_eq_some_iff.1 hX5
         refine T.step (W1.call (vSc eInt) r11 7 #[.agg (List.toArray ((.slice A11 r10.1.run.length c11) :: (DA16.cells r10.1.roles ++ (DA16.cells r10.1.fed))))] (by kernel_rfl) (fun _ => by kernel_rfl) (fun w' hh => realm_Check_l F r10.1 r11 hb15 w' A11 c11 (SlOk.mono (SlOk.mono hs11 (View.le_trans (made_le _ _) (View.le_refl _))) hh.view)) ?_)
         intro u V16 hV16 hu
         obtain rfl := sureInt _ _ _ hu
         refine T.pure (.bool (r11 != 0)) (by kernel_rfl) (fun _ => by kernel_rfl) ?_
         refine T.nil ?_
         refine T.cond (r11 != 0) (by kernel_rfl) (by kernel_rfl) (fun hc7 => ?_) (fun hc7 => ?_)
         ·
          rw [hc7, cond_true] at hX5
          refine T.seq ?_
          refine T.region ?_
          refine T.pure (.bool false) (by kernel_rfl) (fun _ => by kernel_rfl) ?_
          refine T.nil ?_
          cases hX5
          refine T.ret rfl ?_
          repeat first | refine T.unthen ?_ | refine T.unblock ?_
          exact T.ret1 rfl (ResIs.tmp rfl) fun w' hh => ⟨_, rfl, Exists.intro V16 (And.intro hV16 (And.intro rfl (hh.sub (.cons _ (.cons_cons _ (.cons_cons _ (.cons_cons _ List.Sublist.slnil)))))))⟩
         ·
          rw [hc7, cond_false] at hX5
          refine T.skip_code ?_
          refine T.seq ?_
          refine T.seq ?_
          refine T.region ?_
          refine T.pure (.int .i64 0) (by kernel_rfl) (fun _ => by kernel_rfl) ?_
          refine T.nil ?_
          obtain ⟨q2, hz2, hX5⟩ := Option.bind_eq_some_iff.1 hX5
          refine T.mid (fun a w' => q2 = Sum.inl () ∧ ∃ (V18 : View), View.le V16 V18 ∧ Fr 63 [] a ∧ Hp w V18 [box b7 25 ((.slice A11 r10.1.run.length c11) :: (DA16.cells r10.1.roles ++ (DA16.cells r10.1.fed))), box b2 27 [.int .i64 p1.pfs, .int .i64 p1.obj, .int .i64 p1.off], box b1 25 ((.slice A1 p0.run.length c1) :: (DA16.cells p0.roles ++ (DA16.cells p0.fed)))] w') ?_ ?_
          ·
           refine T.block ?_
           refine T.iter (fun x2 a w' => ∃ (V17 : View), View.le V16 V17 ∧ Fr 63 [(1, .int .i64 p1.pfs), (2, .pointer (some ⟨b1, 0, none⟩)), (3, .pointer (some ⟨b8, 0, none⟩)), (14, .int .i64 x2)] a ∧ Hp w V17 [box b8 25 ((.slice A11 r10.1.run.length c11) :: (DA16.cells r10.1.roles ++ (DA16.cells r10.1.fed))), box b7 25 ((.slice A11 r10.1.run.length c11) :: (DA16.cells r10.1.roles ++ (DA16.cells r10.1.fed))), box b2 27 [.int .i64 p1.pfs, .int .i64 p1.obj, .int .i64 p1.off], box b1 25 ((.slice A1 p0.run.length c1) :: (DA16.cells p0.roles ++ (DA16.cells p0.fed)))] w') hz2 ?_ ?_
           ·
            exact fun a w' hf hh => Exists.intro V16 (And.intro (View.le_refl _) (And.intro (((((Fr.nil hf).pick hf 14 rfl).pick hf 3 rfl).pick hf 2 rfl).pick hf 1 rfl) (hh.sub (.cons_cons _ (.cons_cons _ (.cons_cons _ (.cons_cons _ List.Sublist.slnil)))))))
           ·
            rintro x2 y2 hY2 hr8 a w' ⟨V17, hV17, hf, hh⟩
            refine (?_ : T 63 w V17 [box b8 25 ((.slice A11 r10.1.run.length c11) :: (DA16.cells r10.1.roles ++ (DA16.cells r10.1.fed))), box b7 25 ((.slice A11 r10.1.run.length c11) :: (DA16.cells r10.1.roles ++ (DA16.cells r10.1.fed))), box b2 27 [.int .i64 p1.pfs, .int .i64 p1.obj, .int .i64 p1.off], box b1 25 ((.slice A1 p0.run.length c1) :: (DA16.cells p0.roles ++ (DA16.cells p0.fed)))] [(1, .int .i64 p1.pfs), (2, .pointer (some ⟨b1, 0, none⟩)), (3, .pointer (some ⟨b8, 0, none⟩)), (14, .int .i64 x2)] _) a w' hf hh
            clear hf hh
            try dsimp only at hY2
            refine T.seq ?_
            refine T.region ?_
            refine T.pure (.bool (decide (x2 < 16))) (by kernel_rfl) (fun _ => by kernel_rfl) ?_
            refine T.nil ?_
            refine T.seq ?_
            refine T.cond (decide (x2 < 16)) (by kernel_rfl) (by kernel_rfl) (fun hc8 => ?_) (fun hc8 => ?_)
            ·
             rw [hc8, cond_true] at hY2
             refine T.skip_code ?_
             refine T.seq ?_
             refine T.block ?_
             refine T.seq ?_
             refine T.region ?_
             refine T.pure (.int .i64 x2) (by kernel_rfl) (fun _ => by kernel_rfl) ?_
             refine T.pure (.int .i64 x2) (by kernel_rfl) (fun _ => by kernel_rfl) ?_
             refine T.nil ?_
             refine T.seq ?_
             refine T.region ?_
             refine T.pure (.pointer (some ⟨b1, 0, none⟩)) (by kernel_rfl) (fun _ => by kernel_rfl) ?_
             refine T.look (.slice A1 p0.run.length c1) (by kernel_rfl) (fun w' hh => exec_load1 rfl rfl (by kernel_rfl) (hh.cellBox (i := 3) (by rfl) 0)) ?_
             refine T.pure (.int .i64 x2) (by kernel_rfl) (fun _ => by kernel_rfl) ?_
             obtain ⟨r12, hb16, hY2⟩ := Option.bind_eq_some_iff.1 hY2
             refine T.step (W1.call (vT2 (vSc (eList eElem)) (vSc (eList eElem))) r12 8 #[.slice A1 p0.run.length c1, .int .i64 x2] (by kernel_rfl) (fun _ => by kernel_rfl) (fun w' hh => annalref_Realm_l F p0.run x2 r12 hb16 w' A1 c1 (SlOk.mono (SlOk.mono hs1 (View.le_trans (View.le_trans (View.le_trans (View.le_trans (View.le_trans (View.le_trans (View.le_trans (View.le_trans hV1 hV2) hV3) hV4) hV5) hV6) hV13) hV16) hV17)) hh.view)) ?_)
             intro u V19 hV19 hu
             obtain ⟨u13, u14, rfl, hu13, hu14⟩ := vT2_elim hu
             obtain ⟨A12, c12, rfl, hs12⟩ := vlist_elim hu13
             obtain ⟨A13, c13, rfl, hs13⟩ := vlist_elim hu14
             refine T.pure (.tuple #[.slice A12 r12.1.length c12, .slice A13 r12.2.length c13]) (by kernel_rfl) (fun _ => by kernel_rfl) ?_
             refine T.pure (.slice A12 r12.1.length c12) (by kernel_rfl) (fun _ => by kernel_rfl) ?_
             refine T.pure (.slice A13 r12.2.length c13) (by kernel_rfl) (fun _ => by kernel_rfl) ?_
             refine T.pure (.slice A12 r12.1.length c12) (by kernel_rfl) (fun _ => by kernel_rfl) ?_
             refine T.pure (.slice A13 r12.2.length c13) (by kernel_rfl) (fun _ => by kernel_rfl) ?_
             refine T.nil ?_
             refine T.seq ?_
             refine T.region ?_
             refine T.pure (.pointer (some ⟨b8, 0, none⟩)) (by kernel_rfl) (fun _ => by kernel_rfl) ?_
             refine T.look (.slice A11 r10.1.run.length c11) (by kernel_rfl) (fun w' hh => exec_load1 rfl rfl (by kernel_rfl) (hh.cellBox (i := 0) (by rfl) 0)) ?_
             refine T.pure (.int .i64 x2) (by kernel_rfl) (fun _ => by kernel_rfl) ?_
             obtain ⟨r13, hb17, hY2⟩ := Option.bind_eq_some_iff.1 hY2
             refine T.step (W1.call (vT2 (vSc (eList eElem)) (vSc (eList eElem))) r13 8 #[.slice A11 r10.1.run.length c11, .int .i64 x2] (by kernel_rfl) (fun _ => by kernel_rfl) (fun w' hh => annalref_Realm_l F r10.1.run x2 r13 hb17 w' A11 c11 (SlOk.mono (SlOk.mono hs11 (View.le_trans (made_le _ _) (View.le_trans (View.le_trans hV16 hV17) hV19))) hh.view)) ?_)
             intro u V20 hV20 hu
             obtain ⟨u15, u16, rfl, hu15, hu16⟩ := vT2_elim hu
             obtain ⟨A14, c14, rfl, hs14⟩ := vlist_elim hu15
             obtain ⟨A15, c15, rfl, hs15⟩ := vlist_elim hu16
             refine T.pure (.tuple #[.slice A14 r13.1.length c14, .slice A15 r13.2.length c15]) (by kernel_rfl) (fun _ => by kernel_rfl) ?_
             refine T.pure (.slice A14 r13.1.length c14) (by kernel_rfl) (fun _ => by kernel_rfl) ?_
             refine T.pure (.slice A15 r13.2.length c15) (by kernel_rfl) (fun _ => by kernel_rfl) ?_
             refine T.pure (.slice A14 r13.1.length c14) (by kernel_rfl) (fun _ => by kernel_rfl) ?_
             refine T.pure (.slice A15 r13.2.length c15) (by kernel_rfl) (fun _ => by kernel_rfl) ?_
             refine T.nil ?_
             obtain ⟨z6, hX6, hY2⟩ := Option.bind_eq_some_iff.1 hY2
             refine T.cut (fun a w' => Fr 63 [(1, .int .i64 p1.pfs), (2, .pointer (some ⟨b1, 0, none⟩)), (3, .pointer (some ⟨b8, 0, none⟩)), (14, .int .i64 x2), (61, .bool z6)] a ∧ Hp w V20 [box b8 25 ((.slice A11 r10.1.run.length c11) :: (DA16.cells r10.1.roles ++ (DA16.cells r10.1.fed))), box b7 25 ((.slice A11 r10.1.run.length c11) :: (DA16.cells r10.1.roles ++ (DA16.cells r10.1.fed))), box b2 27 [.int .i64 p1.pfs, .int .i64 p1.obj, .int .i64 p1.off], box b1 25 ((.slice A1 p0.run.length c1) :: (DA16.cells p0.roles ++ (DA16.cells p0.fed)))] w') ?_ ?_
             ·
              refine T.quiet (by kernel_rfl) (by kernel_rfl) ?_
              refine TQ.pure (.int .i64 x2) (by kernel_rfl) (fun _ => by kernel_rfl) ?_
              refine TQ.pure (.int .i64 p1.pfs) (by kernel_rfl) (fun _ => by kernel_rfl) ?_
              refine TQ.pure (.bool (x2 != p1.pfs)) (by kernel_rfl) (fun _ => by kernel_rfl) ?_
              refine TQ.pure (.bool (x2 != p1.pfs)) (by kernel_rfl) (fun _ => by kernel_rfl) ?_
              cases hg7 : (x2 != p1.pfs)
              ·
               skip
               rw [hg7, cond_false] at hX6
               refine TQ.pass (by kernel_rfl) (by kernel_rfl) ?_
               refine TQ.pass (by kernel_rfl) (by kernel_rfl) ?_
               refine TQ.pass (by kernel_rfl) (by kernel_rfl) ?_
               refine TQ.pass (by kernel_rfl) (by kernel_rfl) ?_
               refine TQ.pass (by kernel_rfl) (by kernel_rfl) ?_
               refine TQ.pass (by kernel_rfl) (by kernel_rfl) ?_
               refine TQ.pass (by kernel_rfl) (by kernel_rfl) ?_
               refine TQ.pass (by kernel_rfl) (by kernel_rfl) ?_
               refine TQ.pass (by kernel_rfl) (by kernel_rfl) ?_
               refine TQ.pass (by kernel_rfl) (by kernel_rfl) ?_
               refine TQ.pass (by kernel_rfl) (by kernel_rfl) ?_
               refine TQ.pass (by kernel_rfl) (by kernel_rfl) ?_
               refine TQ.pass (by kernel_rfl) (by kernel_rfl) ?_
               refine TQ.pass (by kernel_rfl) (by kernel_rfl) ?_
               refine TQ.pass (by kernel_rfl) (by kernel_rfl) ?_
               refine TQ.pass (by kernel_rfl) (by kernel_rfl) ?_
               refine TQ.pass (by kernel_rfl) (by kernel_rfl) ?_
               refine TQ.pass (by kernel_rfl) (by kernel_rfl) ?_
               refine TQ.pass (by kernel_rfl) (by kernel_rfl) ?_
               refine TQ.pass (by kernel_rfl) (by kernel_rfl) ?_
               refine TQ.pass (by kernel_rfl) (by kernel_rfl) ?_
               refine TQ.pass (by kernel_rfl) (by kernel_rfl) ?_
               refine TQ.pass (by kernel_rfl) (by kernel_rfl) ?_
               refine TQ.pass (by kernel_rfl) (by kernel_rfl) ?_
               refine TQ.pass (by kernel_rfl) (by kernel_rfl) ?_
               refine TQ.pass (by kernel_rfl) (by kernel_rfl) ?_
               refine TQ.pure (.bool false) (by kernel_rfl) (fun _ => by kernel_rfl) ?_
               refine TQ.nil ?_
               cases hX6
               exact fun a w' hf hh => And.intro ((((((Fr.nil hf).pick hf 61 rfl).pick hf 14 rfl).pick hf 3 rfl).pick hf 2 rfl).pick hf 1 rfl) (hh.sub (.cons_cons _ (.cons_cons _ (.cons_cons _ (.cons_cons _ List.Sublist.slnil)))))
              ·
               skip
               rw [hg7, cond_true] at hX6
               refine TQ.pure (.slice A12 r12.1.length c12) (by kernel_rfl) (fun _ => by kernel_rfl) ?_
               refine TQ.pure (.slice A14 r13.1.length c14) (by kernel_rfl) (fun _ => by kernel_rfl) ?_
               obtain ⟨r14, hb18, hX6⟩ := Option.bind_eq_some_iff.1 hX6
               refine TQ.call (vSc eBool) r14 9 #[.slice A12 r12.1.length c12, .slice A14 r13.1.length c14] (.bool r14) (fun V u hu => sureBool V u _ hu) (by kernel_rfl) (fun _ => by kernel_rfl) (fun w' hh => slices_Equal_Elem_l F r12.1 r13.1 r14 hb18 w' A12 c12 (SlOk.mono (SlOk.mono hs12 (View.le_trans (made_le _ _) hV20)) hh.view) A14 c14 (SlOk.mono (SlOk.mono hs14 (View.le_trans (made_le _ _) (View.le_refl _))) hh.view)) ?_
               refine TQ.pure (.bool (!r14)) (by kernel_rfl) (fun _ => by kernel_rfl) ?_
               refine TQ.pure (.bool (!r14)) (by kernel_rfl) (fun _ => by kernel_rfl) ?_
               cases hg8 : (!r14)
               ·
                skip
                rw [hg8, cond_false] at hX6
                refine TQ.pure (.int .i64 x2) (by kernel_rfl) (fun _ => by kernel_rfl) ?_
                refine TQ.pure (.pointer (some ⟨b8, 1, none⟩)) (by kernel_rfl) (fun _ => by kernel_rfl) ?_
                obtain ⟨e5, hb19, hX6⟩ := Option.bind_eq_some_iff.1 hX6
                obtain ⟨hi13, hi14, hi15⟩ := idx_some hb19
                refine TQ.look (.pointer (some ((⟨b8, 1, none⟩ : Addr).add (x2.toNat * 1)))) (by kernel_rfl) (fun w' hh => exec_arrAddr (e := 3) rfl rfl rfl (by kernel_rfl) (by kernel_rfl) hi13 hi14) ?_
                refine TQ.look (.int .i64 e5) (by kernel_rfl) (fun w' hh => exec_load1 rfl rfl (by kernel_rfl) (hh.arr_at (i := 0) (by rfl) 1 r10.1.roles rfl hi15)) ?_
                refine TQ.pure (.int .i64 x2) (by kernel_rfl) (fun _ => by kernel_rfl) ?_
                refine TQ.pure (.pointer (some ⟨b1, 1, none⟩)) (by kernel_rfl) (fun _ => by kernel_rfl) ?_
                obtain ⟨e6, hb20, hX6⟩ := Option.bind_eq_some_iff.1 hX6
                obtain ⟨hi16, hi17, hi18⟩ := idx_some hb20
                refine TQ.look (.pointer (some ((⟨b1, 1, none⟩ : Addr).add (x2.toNat * 1)))) (by kernel_rfl) (fun w' hh => exec_arrAddr (e := 3) rfl rfl rfl (by kernel_rfl) (by kernel_rfl) hi16 hi17) ?_
                refine TQ.look (.int .i64 e6) (by kernel_rfl) (fun w' hh => exec_load1 rfl rfl (by kernel_rfl) (hh.arr_at (i := 3) (by rfl) 1 p0.roles rfl hi18)) ?_
                refine TQ.pure (.bool (e5 != e6)) (by kernel_rfl) (fun _ => by kernel_rfl) ?_
                refine TQ.pure (.bool (e5 != e6)) (by kernel_rfl) (fun _ => by kernel_rfl) ?_
                refine TQ.pure (.bool (e5 != e6)) (by kernel_rfl) (fun _ => by kernel_rfl) ?_
                cases hg9 : (e5 != e6)
                ·
                 skip
                 rw [hg9, cond_false] at hX6
                 refine TQ.pure (.int .i64 x2) (by kernel_rfl) (fun _ => by kernel_rfl) ?_
                 refine TQ.pure (.pointer (some ⟨b8, 17, none⟩)) (by kernel_rfl) (fun _ => by kernel_rfl) ?_
                 obtain ⟨e7, hb21, hX6⟩ := Option.bind_eq_some_iff.1 hX6
                 obtain ⟨hi19, hi20, hi21⟩ := idx_some hb21
                 refine TQ.look (.pointer (some ((⟨b8, 17, none⟩ : Addr).add (x2.toNat * 1)))) (by kernel_rfl) (fun w' hh => exec_arrAddr (e := 3) rfl rfl rfl (by kernel_rfl) (by kernel_rfl) hi19 hi20) ?_
                 refine TQ.look (.int .i64 e7) (by kernel_rfl) (fun w' hh => exec_load1 rfl rfl (by kernel_rfl) (hh.arr_at (i := 0) (by rfl) 17 r10.1.fed rfl hi21)) ?_
                 refine TQ.pure (.int .i64 x2) (by kernel_rfl) (fun _ => by kernel_rfl) ?_
                 refine TQ.pure (.pointer (some ⟨b1, 17, none⟩)) (by kernel_rfl) (fun _ => by kernel_rfl) ?_
                 obtain ⟨e8, hb22, hX6⟩ := Option.bind_eq_some_iff.1 hX6
                 obtain ⟨hi22, hi23, hi24⟩ := idx_some hb22
                 refine TQ.look (.pointer (some ((⟨b1, 17, none⟩ : Addr).add (x2.toNat * 1)))) (by kernel_rfl) (fun w' hh => exec_arrAddr (e := 3) rfl rfl rfl (by kernel_rfl) (by kernel_rfl) hi22 hi23) ?_
                 refine TQ.look (.int .i64 e8) (by kernel_rfl) (fun w' hh => exec_load1 rfl rfl (by kernel_rfl) (hh.arr_at (i := 3) (by rfl) 17 p0.fed rfl hi24)) ?_
                 refine TQ.pure (.bool (e7 != e8)) (by kernel_rfl) (fun _ => by kernel_rfl) ?_
                 refine TQ.pure (.bool (e7 != e8)) (by kernel_rfl) (fun _ => by kernel_rfl) ?_
                 refine TQ.pure (.bool (e7 != e8)) (by kernel_rfl) (fun _ => by kernel_rfl) ?_
                 refine TQ.nil ?_
                 cases hX6
                 exact fun a w' hf hh => And.intro ((((((Fr.nil hf).pick hf 61 rfl).pick hf 14 rfl).pick hf 3 rfl).pick hf 2 rfl).pick hf 1 rfl) (hh.sub (.cons_cons _ (.cons_cons _ (.cons_cons _ (.cons_cons _ List.Sublist.slnil)))))
                ·
                 skip
                 rw [hg9, cond_true] at hX6
                 refine TQ.pass (by kernel_rfl) (by kernel_rfl) ?_
                 refine TQ.pass (by kernel_rfl) (by kernel_rfl) ?_
                 refine TQ.pass (by kernel_rfl) (by kernel_rfl) ?_
                 refine TQ.pass (by kernel_rfl) (by kernel_rfl) ?_
                 refine TQ.pass (by kernel_rfl) (by kernel_rfl) ?_
                 refine TQ.pass (by kernel_rfl) (by kernel_rfl) ?_
                 refine TQ.pass (by kernel_rfl) (by kernel_rfl) ?_
                 refine TQ.pass (by kernel_rfl) (by kernel_rfl) ?_
                 refine TQ.pass (by kernel_rfl) (by kernel_rfl) ?_
                 refine TQ.pure (.bool true) (by kernel_rfl) (fun _ => by kernel_rfl) ?_
                 refine TQ.pure (.bool true) (by kernel_rfl) (fun _ => by kernel_rfl) ?_
                 refine TQ.nil ?_
                 cases hX6
                 exact fun a w' hf hh => And.intro ((((((Fr.nil hf).pick hf 61 rfl).pick hf 14 rfl).pick hf 3 rfl).pick hf 2 rfl).pick hf 1 rfl) (hh.sub (.cons_cons _ (.cons_cons _ (.cons_cons _ (.cons_cons _ List.Sublist.slnil)))))
               ·
                skip
                rw [hg8, cond_true] at hX6
                refine TQ.pass (by kernel_rfl) (by kernel_rfl) ?_
                refine TQ.pass (by kernel_rfl) (by kernel_rfl) ?_
                refine TQ.pass (by kernel_rfl) (by kernel_rfl) ?_
                refine TQ.pass (by kernel_rfl) (by kernel_rfl) ?_
                refine TQ.pass (by kernel_rfl) (by kernel_rfl) ?_
                refine TQ.pass (by kernel_rfl) (by kernel_rfl) ?_
                refine TQ.pass (by kernel_rfl) (by kernel_rfl) ?_
                refine TQ.pass (by kernel_rfl) (by kernel_rfl) ?_
                refine TQ.pass (by kernel_rfl) (by kernel_rfl) ?_
                refine TQ.pure (.bool true) (by kernel_rfl) (fun _ => by kernel_rfl) ?_
                refine TQ.pure (.bool true) (by kernel_rfl) (fun _ => by kernel_rfl) ?_
                refine TQ.pass (by kernel_rfl) (by kernel_rfl) ?_
                refine TQ.pass (by kernel_rfl) (by kernel_rfl) ?_
                refine TQ.pass (by kernel_rfl) (by kernel_rfl) ?_
                refine TQ.pass (by kernel_rfl) (by kernel_rfl) ?_
                refine TQ.pass (by kernel_rfl) (by kernel_rfl) ?_
                refine TQ.pass (by kernel_rfl) (by kernel_rfl) ?_
                refine TQ.pass (by kernel_rfl) (by kernel_rfl) ?_
                refine TQ.pass (by kernel_rfl) (by kernel_rfl) ?_
                refine TQ.pass (by kernel_rfl) (by kernel_rfl) ?_
                refine TQ.pure (.bool true) (by kernel_rfl) (fun _ => by kernel_rfl) ?_
                refine TQ.pure (.bool true) (by kernel_rfl) (fun _ => by kernel_rfl) ?_
                refine TQ.nil ?_
                cases hX6
                exact fun a w' hf hh => And.intro ((((((Fr.nil hf).pick hf 61 rfl).pick hf 14 rfl).pick hf 3 rfl).pick hf 2 rfl).pick hf 1 rfl) (hh.sub (.cons_cons _ (.cons_cons _ (.cons_cons _ (.cons_cons _ List.Sublist.slnil)))))
             ·
              rintro a w' ⟨hf, hh⟩
              refine (?_ : T 63 w V20 [box b8 25 ((.slice A11 r10.1.run.length c11) :: (DA16.cells r10.1.roles ++ (DA16.cells r10.1.fed))), box b7 25 ((.slice A11 r10.1.run.length c11) :: (DA16.cells r10.1.roles ++ (DA16.cells r10.1.fed))), box b2 27 [.int .i64 p1.pfs, .int .i64 p1.obj, .int .i64 p1.off], box b1 25 ((.slice A1 p0.run.length c1) :: (DA16.cells p0.roles ++ (DA16.cells p0.fed)))] [(1, .int .i64 p1.pfs), (2, .pointer (some ⟨b1, 0, none⟩)), (3, .pointer (some ⟨b8, 0, none⟩)), (14, .int .i64 x2), (61, .bool z6)] _) a w' hf hh
              clear hf hh
              refine T.cond z6 (by kernel_rfl) (by kernel_rfl) (fun hc9 => ?_) (fun hc9 => ?_)
              ·
               rw [hc9, cond_true] at hY2
               refine T.seq ?_
               refine T.region ?_
               refine T.pure (.bool false) (by kernel_rfl) (fun _ => by kernel_rfl) ?_
               refine T.nil ?_
               cases hY2
               cases (hr8 _ rfl)
               try dsimp only at hX5
               cases hX5
               refine T.ret rfl ?_
               repeat first | refine T.unthen ?_ | refine T.unblock ?_
               exact T.ret1 rfl (ResIs.tmp rfl) fun w' hh => ⟨_, rfl, Exists.intro V20 (And.intro (View.le_trans (View.le_trans (View.le_trans hV16 hV17) hV19) hV20) (And.intro rfl (hh.sub (.cons _ (.cons_cons _ (.cons_cons _ (.cons_cons _ List.Sublist.slnil)))))))⟩
              ·
               rw [hc9, cond_false] at hY2
               refine T.skip_code ?_
               refine T.region ?_
               refine T.pure (.int .i64 (IntKind.i64.wrap (x2 + 1))) (by kernel_rfl) (fun _ => by kernel_rfl) ?_
               refine T.pure (.int .i64 (IntKind.i64.wrap (x2 + 1))) (by kernel_rfl) (fun _ => by kernel_rfl) ?_
               refine T.nil ?_
               cases hY2
               exact fun a w' hf hh => Exists.intro (IntKind.i64.wrap (x2 + 1)) (And.intro rfl (Exists.intro V20 (And.intro (View.le_trans (View.le_trans hV17 hV19) hV20) (And.intro (((((Fr.nil hf).pick hf 14 rfl).pick hf 3 rfl).pick hf 2 rfl).pick hf 1 rfl) (hh.sub (.cons_cons _ (.cons_cons _ (.cons_cons _ (.cons_cons _ List.Sublist.slnil)))))))))
            ·
             rw [hc8, cond_false] at hY2
             refine T.exit ?_
             cases hY2
             cases (hr8 _ rfl)
             exact fun a w' hf hh => And.intro rfl (Exists.intro V17 (And.intro hV17 (And.intro (Fr.nil hf) (hh.sub (.cons _ (.cons_cons _ (.cons_cons _ (.cons_cons _ List.Sublist.slnil))))))))
          ·
           rintro a w' ⟨rfl, V18, hV18, hf, hh⟩
           try dsimp only at hX5
           refine (?_ : T 63 w V18 [box b7 25 ((.slice A11 r10.1.run.length c11) :: (DA16.cells r10.1.roles ++ (DA16.cells r10.1.fed))), box b2 27 [.int .i64 p1.pfs, .int .i64 p1.obj, .int .i64 p1.off], box b1 25 ((.slice A1 p0.run.length c1) :: (DA16.cells p0.roles ++ (DA16.cells p0.fed)))] [] _) a w' hf hh
           clear hf hh
           refine T.seq ?_
           refine T.region ?_
           refine T.pure (.bool true) (by kernel_rfl) (fun _ => by kernel_rfl) ?_
           refine T.nil ?_
           cases hX5
           refine T.ret rfl ?_
           repeat first | refine T.unthen ?_ | refine T.unblock ?_
           exact T.ret1 rfl (ResIs.tmp rfl) fun w' hh => ⟨_, rfl, Exists.intro V18 (And.intro (View.le_trans hV16 hV18) (And.intro rfl (hh.sub (.cons_cons _ (.cons_cons _ (.cons_cons _ List.Sublist.slnil))))))⟩
        ·
         rintro v w' ⟨V15, hV15, rfl, hh⟩
         refine ⟨V15, [box b7 25 ((.slice A11 r10.1.run.length c11) :: (DA16.cells r10.1.roles ++ (DA16.cells r10.1.fed))), box b2 27 [.int .i64 p1.pfs, .int .i64 p1.obj, .int .i64 p1.off], box b1 25 ((.slice A1 p0.run.length c1) :: (DA16.cells p0.roles ++ (DA16.cells p0.fed)))], hh, ?_⟩
         clear hh
         refine T.pure (.bool (!z5)) (by kernel_rfl) (fun _ => by kernel_rfl) ?_
         refine T.pure (.bool (!z5)) (by kernel_rfl) (fun _ => by kernel_rfl) ?_
         refine T.nil ?_
         cases hX4
         exact fun a w' hf hh => Exists.intro V15 (And.intro hV15 (And.intro (((((Fr.nil hf).pick hf 79 rfl).pick hf 15 rfl).pick hf 5 rfl).pick hf 4 rfl) (hh.sub (.cons _ (.cons _ (.cons_cons _ List.Sublist.slnil))))))
      ·
       rintro a w' ⟨V14, hV14, hf, hh⟩
       refine (?_ : T 96 w V14 [box b1 25 ((.slice A1 p0.run.length c1) :: (DA16.cells p0.roles ++ (DA16.cells p0.fed)))] [(4, .string p4), (5, .pointer (some ⟨b1, 0, none⟩)), (15, .func (.func 6) #[] #[.pointer (some ⟨b1, 0, none⟩)]), (79, .bool z4)] _) a w' hf hh
       clear hf hh
       refine T.cond z4 (by kernel_rfl) (by kernel_rfl) (fun hc10 => ?_) (fun hc10 => ?_)
       ·
        rw [hc10, cond_true] at hF
        refine T.seq ?_
        refine T.region ?_
        refine T.pure (.bool false) (by kernel_rfl) (fun _ => by kernel_rfl) ?_
        refine T.nil ?_
        cases hF
        refine T.ret rfl ?_
        exact T.ret1 rfl (ResIs.tmp rfl) fun w' hh => ⟨_, rfl, hh.below, (show _ from rfl)⟩
       ·
        rw [hc10, cond_false] at hF
        refine T.skip_code ?_
        refine T.seq ?_
        refine T.region ?_
        refine T.look (.agg (List.toArray ((.slice A1 p0.run.length c1) :: (DA16.cells p0.roles ++ (DA16.cells p0.fed))))) (by kernel_rfl) (fun w' hh => exec_loadN (cs := ((.slice A1 p0.run.length c1) :: (DA16.cells p0.roles ++ (DA16.cells p0.fed)))) rfl rfl (by kernel_rfl) (by kernel_rfl) (fun j u hj => (hh.box_at (i := 0) (cs := ((.slice A1 p0.run.length c1) :: (DA16.cells p0.roles ++ (DA16.cells p0.fed)))) (by rfl) 0 j).trans (seg_at (n := 33) (by rfl) hj))) ?_
        refine T.pure (.string p4) (by kernel_rfl) (fun _ => by kernel_rfl) ?_
        obtain ⟨r15, hb23, hF⟩ := Option.bind_eq_some_iff.1 hF
        refine T.step (W1.call (vT2 (vAg eBook) (vSc eInt)) r15 11 #[.agg (List.toArray ((.slice A1 p0.run.length c1) :: (DA16.cells p0.roles ++ (DA16.cells p0.fed)))), .string p4] (by kernel_rfl) (fun _ => by kernel_rfl) (fun w' hh => realm_Feed_l F p0 p4 r15 hb23 w' A1 c1 (SlOk.mono (SlOk.mono hs1 (View.le_trans (View.le_trans (View.le_trans (View.le_trans (View.le_trans (View.le_trans (View.le_trans hV1 hV2) hV3) hV4) hV5) hV6) hV13) hV14)) hh.view)) ?_)
        intro u V21 hV21 hu
        obtain ⟨u17, u18, rfl, hu17, hu18⟩ := vT2_elim hu
        obtain ⟨cs7, rfl, hr9⟩ := vagg_elim hu17
        obtain ⟨A16, c16, rfl, hs16⟩ := hr9
        obtain rfl := sureInt _ _ _ hu18
        refine T.pure (.tuple #[.agg (List.toArray ((.slice A16 r15.1.run.length c16) :: (DA16.cells r15.1.roles ++ (DA16.cells r15.1.fed)))), .int .i64 r15.2]) (by kernel_rfl) (fun _ => by kernel_rfl) ?_
        refine T.pure (.agg (List.toArray ((.slice A16 r15.1.run.length c16) :: (DA16.cells r15.1.roles ++ (DA16.cells r15.1.fed))))) (by kernel_rfl) (fun _ => by kernel_rfl) ?_
        refine T.pure (.int .i64 r15.2) (by kernel_rfl) (fun _ => by kernel_rfl) ?_
        refine T.step (W1.new 25 ((.slice none 0 0) :: (DA16.cells (DA16.mk 0 0 0 0 0 0 0 0 0 0 0 0 0 0 0 0) ++ (DA16.cells (DA16.mk 0 0 0 0 0 0 0 0 0 0 0 0 0 0 0 0)))) (fun b => .pointer (some ⟨b, 0, none⟩)) (by kernel_rfl) (fun _ => by kernel_rfl) (fun b9 => ?_))
        refine T.step (W1.store 0 ((.slice A16 r15.1.run.length c16) :: (DA16.cells r15.1.roles ++ (DA16.cells r15.1.fed))) [box b9 25 ((.slice A16 r15.1.run.length c16) :: (DA16.cells r15.1.roles ++ (DA16.cells r15.1.fed))), box b1 25 ((.slice A1 p0.run.length c1) :: (DA16.cells p0.roles ++ (DA16.cells p0.fed)))] (by rfl) rfl (by kernel_rfl) (fun w' hw => exec_store (vs := ((.slice A16 r15.1.run.length c16) :: (DA16.cells r15.1.roles ++ (DA16.cells r15.1.fed)))) rfl rfl rfl rfl (by kernel_rfl) (one_of rfl) (Nat.le_of_ble_eq_true (by rfl)) rfl hw) ?_)
        refine T.pure (.int .i64 r15.2) (by kernel_rfl) (fun _ => by kernel_rfl) ?_
        refine T.nil ?_
        obtain ⟨z7, hX7, hF⟩ := Option.bind_eq_some_iff.1 hF
        refine T.cut (fun a w' => ∃ (V22 : View), View.le V21 V22 ∧ Fr 96 [(10, .bool z7)] a ∧ Hp w V22 [] w') ?_ ?_
        ·
         refine T.held [box b9 25 ((.slice A16 r15.1.run.length c16) :: (DA16.cells r15.1.roles ++ (DA16.cells r15.1.fed)))] (by kernel_rfl) ?_
         refine TA.take 0 (.int .i64 r15.2) rfl (by kernel_rfl) (by kernel_rfl) (by kernel_rfl) (fun _ _ _ h => h) (Hp.old (View.le_refl _) (View.le_trans (View.le_trans (View.le_trans (View.le_trans (View.le_trans (View.le_trans (View.le_trans (View.le_trans hV1 hV2) hV3) hV4) hV5) hV6) hV13) hV14) hV21) (.cons_cons _ (.cons _ List.Sublist.slnil)) (OldAll.box OldAll.nil)) (by kernel_rfl) (fun _ _ => by kernel_rfl) ?_
         refine TA.take 1 (.bool (r15.2 != 0)) rfl (by kernel_rfl) (by kernel_rfl) (by kernel_rfl) (fun _ _ _ h => h) (Hp.old (View.le_refl _) (View.le_trans (View.le_trans (View.le_trans (View.le_trans (View.le_trans (View.le_trans (View.le_trans (View.le_trans hV1 hV2) hV3) hV4) hV5) hV6) hV13) hV14) hV21) (.cons_cons _ (.cons _ List.Sublist.slnil)) (OldAll.box OldAll.nil)) (by kernel_rfl) (fun _ _ => by kernel_rfl) ?_
         refine TA.take 2 (.bool (r15.2 != 0)) rfl (by kernel_rfl) (by kernel_rfl) (by kernel_rfl) (fun _ _ _ h => h) (Hp.old (View.le_refl _) (View.le_trans (View.le_trans (View.le_trans (View.le_trans (View.le_trans (View.le_trans (View.le_trans (View.le_trans hV1 hV2) hV3) hV4) hV5) hV6) hV13) hV14) hV21) (.cons_cons _ (.cons _ List.Sublist.slnil)) (OldAll.box OldAll.nil)) (by kernel_rfl) (fun _ _ => by kernel_rfl) ?_
         cases hg10 : (r15.2 != 0)
         ·
          rw [hg10, cond_false] at hX7
          refine TA.take 3 (.func (.func 6) #[] #[.pointer (some ⟨b1, 0, none⟩)]) rfl (by kernel_rfl) (by kernel_rfl) (by kernel_rfl) (fun _ _ _ h => h) (Hp.old (View.le_refl _) (View.le_trans (View.le_trans (View.le_trans (View.le_trans (View.le_trans (View.le_trans (View.le_trans (View.le_trans hV1 hV2) hV3) hV4) hV5) hV6) hV13) hV14) hV21) (.cons_cons _ (.cons _ List.Sublist.slnil)) (OldAll.box OldAll.nil)) (by kernel_rfl) (fun _ _ => by kernel_rfl) ?_
          refine TA.take 4 (.agg (List.toArray ((.slice A16 r15.1.run.length c16) :: (DA16.cells r15.1.roles ++ (DA16.cells r15.1.fed))))) rfl (by kernel_rfl) (by kernel_rfl) (by kernel_rfl) (fun _ _ _ h => h) (Hp.old (View.le_refl _) (View.le_trans (View.le_trans (View.le_trans (View.le_trans (View.le_trans (View.le_trans (View.le_trans (View.le_trans hV1 hV2) hV3) hV4) hV5) hV6) hV13) hV14) hV21) (.cons_cons _ (.cons _ List.Sublist.slnil)) (OldAll.box OldAll.nil)) (by kernel_rfl) (fun w' hh => exec_loadN (cs := ((.slice A16 r15.1.run.length c16) :: (DA16.cells r15.1.roles ++ (DA16.cells r15.1.fed)))) rfl rfl (by kernel_rfl) (by kernel_rfl) (fun j u hj => (hh.box_at (i := 0) (cs := ((.slice A16 r15.1.run.length c16) :: (DA16.cells r15.1.roles ++ (DA16.cells r15.1.fed)))) (by rfl) 0 j).trans (seg_at (n := 33) (by rfl) hj))) ?_
          refine TA.take 5 (.string p4) rfl (by kernel_rfl) (by kernel_rfl) (by kernel_rfl) (fun _ _ _ h => h) (Hp.old (View.le_refl _) (View.le_trans (View.le_trans (View.le_trans (View.le_trans (View.le_trans (View.le_trans (View.le_trans (View.le_trans hV1 hV2) hV3) hV4) hV5) hV6) hV13) hV14) hV21) (.cons_cons _ (.cons _ List.Sublist.slnil)) (OldAll.box OldAll.nil)) (by kernel_rfl) (fun _ _ => by kernel_rfl) ?_
          refine TA.all [6] (by kernel_rfl) rfl ⟨?_, trivial⟩
          obtain ⟨r16, hb24, hX7⟩ := Option.bind_eq_some_iff.1 hX7
          refine TA.br rfl (W1.call (vAg eannalref_Parsed) r16 12 #[.string p4] (by kernel_rfl) (fun _ => by kernel_rfl) (fun w' hh => annalref_Parse_l F p4 r16 hb24 w' ) ?_)
          intro u V23 hV23 hu
          obtain ⟨cs8, rfl, hr10⟩ := vagg_elim hu
          obtain ⟨A17, c17, rfl, hs17⟩ := hr10
          refine TA.on (Hp.old hV23 (View.le_trans (View.le_trans (View.le_trans (View.le_trans (View.le_trans (View.le_trans (View.le_trans (View.le_trans hV1 hV2) hV3) hV4) hV5) hV6) hV13) hV14) hV21) (.cons_cons _ (.cons _ List.Sublist.slnil)) (OldAll.box OldAll.nil)) ?_
          refine TA.take 7 (.int .i64 r16.pfs) rfl (by kernel_rfl) (by kernel_rfl) (by kernel_rfl) (fun _ _ _ h => h) (Hp.old hV23 (View.le_trans (View.le_trans (View.le_trans (View.le_trans (View.le_trans (View.le_trans (View.le_trans (View.le_trans hV1 hV2) hV3) hV4) hV5) hV6) hV13) hV14) hV21) (.cons_cons _ (.cons _ List.Sublist.slnil)) (OldAll.box OldAll.nil)) (by kernel_rfl) (fun _ _ => by kernel_rfl) ?_
          refine TA.all [8] (by kernel_rfl) rfl ⟨?_, trivial⟩
          obtain ⟨z8, hX8, hX7⟩ := Option.bind_eq_some_iff.1 hX7
          refine TA.br rfl (W1.within 6 [.agg (List.toArray ((.slice A16 r15.1.run.length c16) :: (DA16.cells r15.1.roles ++ (DA16.cells r15.1.fed)))), .int .i64 r16.pfs, .pointer (some ⟨b1, 0, none⟩)] (fun v w' => ∃ (V24 : View), View.le V23 V24 ∧ v = .bool z8 ∧ Hp w V24 [box b9 25 ((.slice A16 r15.1.run.length c16) :: (DA16.cells r15.1.roles ++ (DA16.cells r15.1.fed))), box b1 25 ((.slice A1 p0.run.length c1) :: (DA16.cells p0.roles ++ (DA16.cells p0.fed)))] w') Try.func6 rfl rfl (by kernel_rfl) (fun _ => by kernel_rfl) rfl ?_ ?_)
          ·
           refine T.seq ?_
           refine T.region ?_
           refine T.step (W1.new 25 ((.slice A16 r15.1.run.length c16) :: (DA16.cells r15.1.roles ++ (DA16.cells r15.1.fed))) (fun b => .pointer (some ⟨b, 0, none⟩)) (by kernel_rfl) (fun _ => by kernel_rfl) (fun b10 => ?_))
           refine T.pure (.bool false) (by kernel_rfl) (fun _ => by kernel_rfl) ?_
           refine T.nil ?_
           refine T.seq ?_
           refine T.seq ?_
           refine T.region ?_
           refine T.look (.agg (List.toArray ((.slice A16 r15.1.run.length c16) :: (DA16.cells r15.1.roles ++ (DA16.cells r15.1.fed))))) (by kernel_rfl) (fun w' hh => exec_loadN (cs := ((.slice A16 r15.1.run.length c16) :: (DA16.cells r15.1.roles ++ (DA16.cells r15.1.fed)))) rfl rfl (by kernel_rfl) (by kernel_rfl) (fun j u hj => (hh.box_at (i := 0) (cs := ((.slice A16 r15.1.run.length c16) :: (DA16.cells r15.1.roles ++ (DA16.cells r15.1.fed)))) (by rfl) 0 j).trans (seg_at (n := 33) (by rfl) hj))) ?_
           obtain ⟨r17, hb25, hX8⟩ := Option.bind_eq_some_iff.1 hX8
           refine T.step (W1.call (vSc eInt) r17 7 #[.agg (List.toArray ((.slice A16 r15.1.run.length c16) :: (DA16.cells r15.1.roles ++ (DA16.cells r15.1.fed))))] (by kernel_rfl) (fun _ => by kernel_rfl) (fun w' hh => realm_Check_l F r15.1 r17 hb25 w' A16 c16 (SlOk.mono (SlOk.mono hs16 (View.le_trans (made_le _ _) hV23)) hh.view)) ?_)
           intro u V25 hV25 hu
           obtain rfl := sureInt _ _ _ hu
           refine T.pure (.bool (r17 != 0)) (by kernel_rfl) (fun _ => by kernel_rfl) ?_
           refine T.nil ?_
           refine T.cond (r17 != 0) (by kernel_rfl) (by kernel_rfl) (fun hc11 => ?_) (fun hc11 => ?_)
           ·
            rw [hc11, cond_true] at hX8
            refine T.seq ?_
            refine T.region ?_
            refine T.pure (.bool false) (by kernel_rfl) (fun _ => by kernel_rfl) ?_
            refine T.nil ?_
            cases hX8
            refine T.ret rfl ?_
            repeat first | refine T.unthen ?_ | refine T.unblock ?_
            exact T.ret1 rfl (ResIs.tmp rfl) fun w' hh => ⟨_, rfl, Exists.intro V25 (And.intro hV25 (And.intro rfl (hh.sub (.cons _ (.cons_cons _ (.cons_cons _ List.Sublist.slnil))))))⟩
           ·
            rw [hc11, cond_false] at hX8
            refine T.skip_code ?_
            refine T.seq ?_
            refine T.seq ?_
            refine T.region ?_
            refine T.pure (.int .i64 0) (by kernel_rfl) (fun _ => by kernel_rfl) ?_
            refine T.nil ?_
            obtain ⟨q3, hz3, hX8⟩ := Option.bind_eq_some_iff.1 hX8
            refine T.mid (fun a w' => q3 = Sum.inl () ∧ ∃ (V27 : View), View.le V25 V27 ∧ Fr 63 [] a ∧ Hp w V27 [box b9 25 ((.slice A16 r15.1.run.length c16) :: (DA16.cells r15.1.roles ++ (DA16.cells r15.1.fed))), box b1 25 ((.slice A1 p0.run.length c1) :: (DA16.cells p0.roles ++ (DA16.cells p0.fed)))] w') ?_ ?_
            ·
             refine T.block ?_
             refine T.iter (fun x3 a w' => ∃ (V26 : View), View.le V25 V26 ∧ Fr 63 [(1, .int .i64 r16.pfs), (2, .pointer (some ⟨b1, 0, none⟩)), (3, .pointer (some ⟨b10, 0, none⟩)), (14, .int .i64 x3)] a ∧ Hp w V26 [box b10 25 ((.slice A16 r15.1.run.length c16) :: (DA16.cells r15.1.roles ++ (DA16.cells r15.1.fed))), box b9 25 ((.slice A16 r15.1.run.length c16) :: (DA16.cells r15.1.roles ++ (DA16.cells r15.1.fed))), box b1 25 ((.slice A1 p0.run.length c1) :: (DA16.cells p0.roles ++ (DA16.cells p0.fed)))] w') hz3 ?_ ?_
             ·
              exact fun a w' hf hh => Exists.intro V25 (And.intro (View.le_refl _) (And.intro (((((Fr.nil hf).pick hf 14 rfl).pick hf 3 rfl).pick hf 2 rfl).pick hf 1 rfl) (hh.sub (.cons_cons _ (.cons_cons _ (.cons_cons _ List.Sublist.slnil))))))
             ·
              rintro x3 y3 hY3 hr11 a w' ⟨V26, hV26, hf, hh⟩
              refine (?_ : T 63 w V26 [box b10 25 ((.slice A16 r15.1.run.length c16) :: (DA16.cells r15.1.roles ++ (DA16.cells r15.1.fed))), box b9 25 ((.slice A16 r15.1.run.length c16) :: (DA16.cells r15.1.roles ++ (DA16.cells r15.1.fed))), box b1 25 ((.slice A1 p0.run.length c1) :: (DA16.cells p0.roles ++ (DA16.cells p0.fed)))] [(1, .int .i64 r16.pfs), (2, .pointer (some ⟨b1, 0, none⟩)), (3, .pointer (some ⟨b10, 0, none⟩)), (14, .int .i64 x3)] _) a w' hf hh
              clear hf hh
              try dsimp only at hY3
              refine T.seq ?_
              refine T.region ?_
              refine T.pure (.bool (decide (x3 < 16))) (by kernel_rfl) (fun _ => by kernel_rfl) ?_
              refine T.nil ?_
              refine T.seq ?_
              refine T.cond (decide (x3 < 16)) (by kernel_rfl) (by kernel_rfl) (fun hc12 => ?_) (fun hc12 => ?_)
              ·
               rw [hc12, cond_true] at hY3
               refine T.skip_code ?_
               refine T.seq ?_
               refine T.block ?_
               refine T.seq ?_
               refine T.region ?_
               refine T.pure (.int .i64 x3) (by kernel_rfl) (fun _ => by kernel_rfl) ?_
               refine T.pure (.int .i64 x3) (by kernel_rfl) (fun _ => by kernel_rfl) ?_
               refine T.nil ?_
               refine T.seq ?_
               refine T.region ?_
               refine T.pure (.pointer (some ⟨b1, 0, none⟩)) (by kernel_rfl) (fun _ => by kernel_rfl) ?_
               refine T.look (.slice A1 p0.run.length c1) (by kernel_rfl) (fun w' hh => exec_load1 rfl rfl (by kernel_rfl) (hh.cellBox (i := 2) (by rfl) 0)) ?_
               refine T.pure (.int .i64 x3) (by kernel_rfl) (fun _ => by kernel_rfl) ?_
               obtain ⟨r18, hb26, hY3⟩ := Option.bind_eq_some_iff.1 hY3
               refine T.step (W1.call (vT2 (vSc (eList eElem)) (vSc (eList eElem))) r18 8 #[.slice A1 p0.run.length c1, .int .i64 x3] (by kernel_rfl) (fun _ => by kernel_rfl) (fun w' hh => annalref_Realm_l F p0.run x3 r18 hb26 w' A1 c1 (SlOk.mono (SlOk.mono hs1 (View.le_trans (View.le_trans (View.le_trans (View.le_trans (View.le_trans (View.le_trans (View.le_trans (View.le_trans (View.le_trans (View.le_trans (View.le_trans hV1 hV2) hV3) hV4) hV5) hV6) hV13) hV14) hV21) hV23) hV25) hV26)) hh.view)) ?_)
               intro u V28 hV28 hu
               obtain ⟨u19, u20, rfl, hu19, hu20⟩ := vT2_elim hu
               obtain ⟨A18, c18, rfl, hs18⟩ := vlist_elim hu19
               obtain ⟨A19, c19, rfl, hs19⟩ := vlist_elim hu20
               refine T.pure (.tuple #[.slice A18 r18.1.length c18, .slice A19 r18.2.length c19]) (by kernel_rfl) (fun _ => by kernel_rfl) ?_
               refine T.pure (.slice A18 r18.1.length c18) (by kernel_rfl) (fun _ => by kernel_rfl) ?_
               refine T.pure (.slice A19 r18.2.length c19) (by kernel_rfl) (fun _ => by kernel_rfl) ?_
               refine T.pure (.slice A18 r18.1.length c18) (by kernel_rfl) (fun _ => by kernel_rfl) ?_
               refine T.pure (.slice A19 r18.2.length c19) (by kernel_rfl) (fun _ => by kernel_rfl) ?_
               refine T.nil ?_
               refine T.seq ?_
               refine T.region ?_
               refine T.pure (.pointer (some ⟨b10, 0, none⟩)) (by kernel_rfl) (fun _ => by kernel_rfl) ?_
               refine T.look (.slice A16 r15.1.run.length c16) (by kernel_rfl) (fun w' hh => exec_load1 rfl rfl (by kernel_rfl) (hh.cellBox (i := 0) (by rfl) 0)) ?_
               refine T.pure (.int .i64 x3) (by kernel_rfl) (fun _ => by kernel_rfl) ?_
               obtain ⟨r19, hb27, hY3⟩ := Option.bind_eq_some_iff.1 hY3
               refine T.step (W1.call (vT2 (vSc (eList eElem)) (vSc (eList eElem))) r19 8 #[.slice A16 r15.1.run.length c16, .int .i64 x3] (by kernel_rfl) (fun _ => by kernel_rfl) (fun w' hh => annalref_Realm_l F r15.1.run x3 r19 hb27 w' A16 c16 (SlOk.mono (SlOk.mono hs16 (View.le_trans (made_le _ _) (View.le_trans (View.le_trans (View.le_trans hV23 hV25) hV26) hV28))) hh.view)) ?_)
               intro u V29 hV29 hu
               obtain ⟨u21, u22, rfl, hu21, hu22⟩ := vT2_elim hu
               obtain ⟨A20, c20, rfl, hs20⟩ := vlist_elim hu21
               obtain ⟨A21, c21, rfl, hs21⟩ := vlist_elim hu22
               refine T.pure (.tuple #[.slice A20 r19.1.length c20, .slice A21 r19.2.length c21]) (by kernel_rfl) (fun _ => by kernel_rfl) ?_
               refine T.pure (.slice A20 r19.1.length c20) (by kernel_rfl) (fun _ => by kernel_rfl) ?_
               refine T.pure (.slice A21 r19.2.length c21) (by kernel_rfl) (fun _ => by kernel_rfl) ?_
               refine T.pure (.slice A20 r19.1.length c20) (by kernel_rfl) (fun _ => by kernel_rfl) ?_
               refine T.pure (.slice A21 r19.2.length c21) (by kernel_rfl) (fun _ => by kernel_rfl) ?_
               refine T.nil ?_
               obtain ⟨z9, hX9, hY3⟩ := Option.bind_eq_some_iff.1 hY3
               refine T.cut (fun a w' => Fr 63 [(1, .int .i64 r16.pfs), (2, .pointer (some ⟨b1, 0, none⟩)), (3, .pointer (some ⟨b10, 0, none⟩)), (14, .int .i64 x3), (61, .bool z9)] a ∧ Hp w V29 [box b10 25 ((.slice A16 r15.1.run.length c16) :: (DA16.cells r15.1.roles ++ (DA16.cells r15.1.fed))), box b9 25 ((.slice A16 r15.1.run.length c16) :: (DA16.cells r15.1.roles ++ (DA16.cells r15.1.fed))), box b1 25 ((.slice A1 p0.run.length c1) :: (DA16.cells p0.roles ++ (DA16.cells p0.fed)))] w') ?_ ?_
               ·
                refine T.quiet (by kernel_rfl) (by kernel_rfl) ?_
                refine TQ.pure (.int .i64 x3) (by kernel_rfl) (fun _ => by kernel_rfl) ?_
                refine TQ.pure (.int .i64 r16.pfs) (by kernel_rfl) (fun _ => by kernel_rfl) ?_
                refine TQ.pure (.bool (x3 != r16.pfs)) (by kernel_rfl) (fun _ => by kernel_rfl) ?_
                refine TQ.pure (.bool (x3 != r16.pfs)) (by kernel_rfl) (fun _ => by kernel_rfl) ?_
                cases hg11 : (x3 != r16.pfs)
                ·
                 skip
                 rw [hg11, cond_false] at hX9
                 refine TQ.pass (by kernel_rfl) (by kernel_rfl) ?_
                 refine TQ.pass (by kernel_rfl) (by kernel_rfl) ?_
                 refine TQ.pass (by kernel_rfl) (by kernel_rfl) ?_
                 refine TQ.pass (by kernel_rfl) (by kernel_rfl) ?_
                 refine TQ.pass (by kernel_rfl) (by kernel_rfl) ?_
                 refine TQ.pass (by kernel_rfl) (by kernel_rfl) ?_
                 refine TQ.pass (by kernel_rfl) (by kernel_rfl) ?_
                 refine TQ.pass (by kernel_rfl) (by kernel_rfl) ?_
                 refine TQ.pass (by kernel_rfl) (by kernel_rfl) ?_
                 refine TQ.pass (by kernel_rfl) (by kernel_rfl) ?_
                 refine TQ.pass (by kernel_rfl) (by kernel_rfl) ?_
                 refine TQ.pass (by kernel_rfl) (by kernel_rfl) ?_
                 refine TQ.pass (by kernel_rfl) (by kernel_rfl) ?_
                 refine TQ.pass (by kernel_rfl) (by kernel_rfl) ?_
                 refine TQ.pass (by kernel_rfl) (by kernel_rfl) ?_
                 refine TQ.pass (by kernel_rfl) (by kernel_rfl) ?_
                 refine TQ.pass (by kernel_rfl) (by kernel_rfl) ?_
                 refine TQ.pass (by kernel_rfl) (by kernel_rfl) ?_
                 refine TQ.pass (by kernel_rfl) (by kernel_rfl) ?_
                 refine TQ.pass (by kernel_rfl) (by kernel_rfl) ?_
                 refine TQ.pass (by kernel_rfl) (by kernel_rfl) ?_
                 refine TQ.pass (by kernel_rfl) (by kernel_rfl) ?_
                 refine TQ.pass (by kernel_rfl) (by kernel_rfl) ?_
                 refine TQ.pass (by kernel_rfl) (by kernel_rfl) ?_
                 refine TQ.pass (by kernel_rfl) (by kernel_rfl) ?_
                 refine TQ.pass (by kernel_rfl) (by kernel_rfl) ?_
                 refine TQ.pure (.bool false) (by kernel_rfl) (fun _ => by kernel_rfl) ?_
                 refine TQ.nil ?_
                 cases hX9
                 exact fun a w' hf hh => And.intro ((((((Fr.nil hf).pick hf 61 rfl).pick hf 14 rfl).pick hf 3 rfl).pick hf 2 rfl).pick hf 1 rfl) (hh.sub (.cons_cons _ (.cons_cons _ (.cons_cons _ List.Sublist.slnil))))
                ·
                 skip
                 rw [hg11, cond_true] at hX9
                 refine TQ.pure (.slice A18 r18.1.length c18) (by kernel_rfl) (fun _ => by kernel_rfl) ?_
                 refine TQ.pure (.slice A20 r19.1.length c20) (by kernel_rfl) (fun _ => by kernel_rfl) ?_
                 obtain ⟨r20, hb28, hX9⟩ := Option.bind_eq_some_iff.1 hX9
                 refine TQ.call (vSc eBool) r20 9 #[.slice A18 r18.1.length c18, .slice A20 r19.1.length c20] (.bool r20) (fun V u hu => sureBool V u _ hu) (by kernel_rfl) (fun _ => by kernel_rfl) (fun w' hh => slices_Equal_Elem_l F r18.1 r19.1 r20 hb28 w' A18 c18 (SlOk.mono (SlOk.mono hs18 (View.le_trans (made_le _ _) hV29)) hh.view) A20 c20 (SlOk.mono (SlOk.mono hs20 (View.le_trans (made_le _ _) (View.le_refl _))) hh.view)) ?_
                 refine TQ.pure (.bool (!r20)) (by kernel_rfl) (fun _ => by kernel_rfl) ?_
                 refine TQ.pure (.bool (!r20)) (by kernel_rfl) (fun _ => by kernel_rfl) ?_
                 cases hg12 : (!r20)
                 ·
                  skip
                  rw [hg12, cond_false] at hX9
                  refine TQ.pure (.int .i64 x3) (by kernel_rfl) (fun _ => by kernel_rfl) ?_
                  refine TQ.pure (.pointer (some ⟨b10, 1, none⟩)) (by kernel_rfl) (fun _ => by kernel_rfl) ?_
                  obtain ⟨e9, hb29, hX9⟩ := Option.bind_eq_some_iff.1 hX9
                  obtain ⟨hi25, hi26, hi27⟩ := idx_some hb29
                  refine TQ.look (.pointer (some ((⟨b10, 1, none⟩ : Addr).add (x3.toNat * 1)))) (by kernel_rfl) (fun w' hh => exec_arrAddr (e := 3) rfl rfl rfl (by kernel_rfl) (by kernel_rfl) hi25 hi26) ?_
                  refine TQ.look (.int .i64 e9) (by kernel_rfl) (fun w' hh => exec_load1 rfl rfl (by kernel_rfl) (hh.arr_at (i := 0) (by rfl) 1 r15.1.roles rfl hi27)) ?_
                  refine TQ.pure (.int .i64 x3) (by kernel_rfl) (fun _ => by kernel_rfl) ?_
                  refine TQ.pure (.pointer (some ⟨b1, 1, none⟩)) (by kernel_rfl) (fun _ => by kernel_rfl) ?_
                  obtain ⟨e10, hb30, hX9⟩ := Option.bind_eq_some_iff.1 hX9
                  obtain ⟨hi28, hi29, hi30⟩ := idx_some hb30
                  refine TQ.look (.pointer (some ((⟨b1, 1, none⟩ : Addr).add (x3.toNat * 1)))) (by kernel_rfl) (fun w' hh => exec_arrAddr (e := 3) rfl rfl rfl (by kernel_rfl) (by kernel_rfl) hi28 hi29) ?_
                  refine TQ.look (.int .i64 e10) (by kernel_rfl) (fun w' hh => exec_load1 rfl rfl (by kernel_rfl) (hh.arr_at (i := 2) (by rfl) 1 p0.roles rfl hi30)) ?_
                  refine TQ.pure (.bool (e9 != e10)) (by kernel_rfl) (fun _ => by kernel_rfl) ?_
                  refine TQ.pure (.bool (e9 != e10)) (by kernel_rfl) (fun _ => by kernel_rfl) ?_
                  refine TQ.pure (.bool (e9 != e10)) (by kernel_rfl) (fun _ => by kernel_rfl) ?_
                  cases hg13 : (e9 != e10)
                  ·
                   skip
                   rw [hg13, cond_false] at hX9
                   refine TQ.pure (.int .i64 x3) (by kernel_rfl) (fun _ => by kernel_rfl) ?_
                   refine TQ.pure (.pointer (some ⟨b10, 17, none⟩)) (by kernel_rfl) (fun _ => by kernel_rfl) ?_
                   obtain ⟨e11, hb31, hX9⟩ := Option.bind_eq_some_iff.1 hX9
                   obtain ⟨hi31, hi32, hi33⟩ := idx_some hb31
                   refine TQ.look (.pointer (some ((⟨b10, 17, none⟩ : Addr).add (x3.toNat * 1)))) (by kernel_rfl) (fun w' hh => exec_arrAddr (e := 3) rfl rfl rfl (by kernel_rfl) (by kernel_rfl) hi31 hi32) ?_
                   refine TQ.look (.int .i64 e11) (by kernel_rfl) (fun w' hh => exec_load1 rfl rfl (by kernel_rfl) (hh.arr_at (i := 0) (by rfl) 17 r15.1.fed rfl hi33)) ?_
                   refine TQ.pure (.int .i64 x3) (by kernel_rfl) (fun _ => by kernel_rfl) ?_
                   refine TQ.pure (.pointer (some ⟨b1, 17, none⟩)) (by kernel_rfl) (fun _ => by kernel_rfl) ?_
                   obtain ⟨e12, hb32, hX9⟩ := Option.bind_eq_some_iff.1 hX9
                   obtain ⟨hi34, hi35, hi36⟩ := idx_some hb32
                   refine TQ.look (.pointer (some ((⟨b1, 17, none⟩ : Addr).add (x3.toNat * 1)))) (by kernel_rfl) (fun w' hh => exec_arrAddr (e := 3) rfl rfl rfl (by kernel_rfl) (by kernel_rfl) hi34 hi35) ?_
                   refine TQ.look (.int .i64 e12) (by kernel_rfl) (fun w' hh => exec_load1 rfl rfl (by kernel_rfl) (hh.arr_at (i := 2) (by rfl) 17 p0.fed rfl hi36)) ?_
                   refine TQ.pure (.bool (e11 != e12)) (by kernel_rfl) (fun _ => by kernel_rfl) ?_
                   refine TQ.pure (.bool (e11 != e12)) (by kernel_rfl) (fun _ => by kernel_rfl) ?_
                   refine TQ.pure (.bool (e11 != e12)) (by kernel_rfl) (fun _ => by kernel_rfl) ?_
                   refine TQ.nil ?_
                   cases hX9
                   exact fun a w' hf hh => And.intro ((((((Fr.nil hf).pick hf 61 rfl).pick hf 14 rfl).pick hf 3 rfl).pick hf 2 rfl).pick hf 1 rfl) (hh.sub (.cons_cons _ (.cons_cons _ (.cons_cons _ List.Sublist.slnil))))
                  ·
                   skip
                   rw [hg13, cond_true] at hX9
                   refine TQ.pass (by kernel_rfl) (by kernel_rfl) ?_
                   refine TQ.pass (by kernel_rfl) (by kernel_rfl) ?_
                   refine TQ.pass (by kernel_rfl) (by kernel_rfl) ?_
                   refine TQ.pass (by kernel_rfl) (by kernel_rfl) ?_
                   refine TQ.pass (by kernel_rfl) (by kernel_rfl) ?_
                   refine TQ.pass (by kernel_rfl) (by kernel_rfl) ?_
                   refine TQ.pass (by kernel_rfl) (by kernel_rfl) ?_
                   refine TQ.pass (by kernel_rfl) (by kernel_rfl) ?_
                   refine TQ.pass (by kernel_rfl) (by kernel_rfl) ?_
                   refine TQ.pure (.bool true) (by kernel_rfl) (fun _ => by kernel_rfl) ?_
                   refine TQ.pure (.bool true) (by kernel_rfl) (fun _ => by kernel_rfl) ?_
                   refine TQ.nil ?_
                   cases hX9
                   exact fun a w' hf hh => And.intro ((((((Fr.nil hf).pick hf 61 rfl).pick hf 14 rfl).pick hf 3 rfl).pick hf 2 rfl).pick hf 1 rfl) (hh.sub (.cons_cons _ (.cons_cons _ (.cons_cons _ List.Sublist.slnil))))
                 ·
                  skip
                  rw [hg12, cond_true] at hX9
                  refine TQ.pass (by kernel_rfl) (by kernel_rfl) ?_
                  refine TQ.pass (by kernel_rfl) (by kernel_rfl) ?_
                  refine TQ.pass (by kernel_rfl) (by kernel_rfl) ?_
                  refine TQ.pass (by kernel_rfl) (by kernel_rfl) ?_
                  refine TQ.pass (by kernel_rfl) (by kernel_rfl) ?_
                  refine TQ.pass (by kernel_rfl) (by kernel_rfl) ?_
                  refine TQ.pass (by kernel_rfl) (by kernel_rfl) ?_
                  refine TQ.pass (by kernel_rfl) (by kernel_rfl) ?_
                  refine TQ.pass (by kernel_rfl) (by kernel_rfl) ?_
                  refine TQ.pure (.bool true) (by kernel_rfl) (fun _ => by kernel_rfl) ?_
                  refine TQ.pure (.bool true) (by kernel_rfl) (fun _ => by kernel_rfl) ?_
                  refine TQ.pass (by kernel_rfl) (by kernel_rfl) ?_
                  refine TQ.pass (by kernel_rfl) (by kernel_rfl) ?_
                  refine TQ.pass (by kernel_rfl) (by kernel_rfl) ?_
                  refine TQ.pass (by kernel_rfl) (by kernel_rfl) ?_
                  refine TQ.pass (by kernel_rfl) (by kernel_rfl) ?_
                  refine TQ.pass (by kernel_rfl) (by kernel_rfl) ?_
                  refine TQ.pass (by kernel_rfl) (by kernel_rfl) ?_
                  refine TQ.pass (by kernel_rfl) (by kernel_rfl) ?_
                  refine TQ.pass (by kernel_rfl) (by kernel_rfl) ?_
                  refine TQ.pure (.bool true) (by kernel_rfl) (fun _ => by kernel_rfl) ?_
                  refine TQ.pure (.bool true) (by kernel_rfl) (fun _ => by kernel_rfl) ?_
                  refine TQ.nil ?_
                  cases hX9
                  exact fun a w' hf hh => And.intro ((((((Fr.nil hf).pick hf 61 rfl).pick hf 14 rfl).pick hf 3 rfl).pick hf 2 rfl).pick hf 1 rfl) (hh.sub (.cons_cons _ (.cons_cons _ (.cons_cons _ List.Sublist.slnil))))
               ·
                rintro a w' ⟨hf, hh⟩
                refine (?_ : T 63 w V29 [box b10 25 ((.slice A16 r15.1.run.length c16) :: (DA16.cells r15.1.roles ++ (DA16.cells r15.1.fed))), box b9 25 ((.slice A16 r15.1.run.length c16) :: (DA16.cells r15.1.roles ++ (DA16.cells r15.1.fed))), box b1 25 ((.slice A1 p0.run.length c1) :: (DA16.cells p0.roles ++ (DA16.cells p0.fed)))] [(1, .int .i64 r16.pfs), (2, .pointer (some ⟨b1, 0, none⟩)), (3, .pointer (some ⟨b10, 0, none⟩)), (14, .int .i64 x3), (61, .bool z9)] _) a w' hf hh
                clear hf hh
                refine T.cond z9 (by kernel_rfl) (by kernel_rfl) (fun hc13 => ?_) (fun hc13 => ?_)
                ·
                 rw [hc13, cond_true] at hY3
                 refine T.seq ?_
                 refine T.region ?_
                 refine T.pure (.bool false) (by kernel_rfl) (fun _ => by kernel_rfl) ?_
                 refine T.nil ?_
                 cases hY3
                 cases (hr11 _ rfl)
                 try dsimp only at hX8
                 cases hX8
                 refine T.ret rfl ?_
                 repeat first | refine T.unthen ?_ | refine T.unblock ?_
                 exact T.ret1 rfl (ResIs.tmp rfl) fun w' hh => ⟨_, rfl, Exists.intro V29 (And.intro (View.le_trans (View.le_trans (View.le_trans hV25 hV26) hV28) hV29) (And.intro rfl (hh.sub (.cons _ (.cons_cons _ (.cons_cons _ List.Sublist.slnil))))))⟩
                ·
                 rw [hc13, cond_false] at hY3
                 refine T.skip_code ?_
                 refine T.region ?_
                 refine T.pure (.int .i64 (IntKind.i64.wrap (x3 + 1))) (by kernel_rfl) (fun _ => by kernel_rfl) ?_
                 refine T.pure (.int .i64 (IntKind.i64.wrap (x3 + 1))) (by kernel_rfl) (fun _ => by kernel_rfl) ?_
                 refine T.nil ?_
                 cases hY3
                 exact fun a w' hf hh => Exists.intro (IntKind.i64.wrap (x3 + 1)) (And.intro rfl (Exists.intro V29 (And.intro (View.le_trans (View.le_trans hV26 hV28) hV29) (And.intro (((((Fr.nil hf).pick hf 14 rfl).pick hf 3 rfl).pick hf 2 rfl).pick hf 1 rfl) (hh.sub (.cons_cons _ (.cons_cons _ (.cons_cons _ List.Sublist.slnil))))))))
              ·
               rw [hc12, cond_false] at hY3
               refine T.exit ?_
               cases hY3
               cases (hr11 _ rfl)
               exact fun a w' hf hh => And.intro rfl (Exists.intro V26 (And.intro hV26 (And.intro (Fr.nil hf) (hh.sub (.cons _ (.cons_cons _ (.cons_cons _ List.Sublist.slnil)))))))
            ·
             rintro a w' ⟨rfl, V27, hV27, hf, hh⟩
             try dsimp only at hX8
             refine (?_ : T 63 w V27 [box b9 25 ((.slice A16 r15.1.run.length c16) :: (DA16.cells r15.1.roles ++ (DA16.cells r15.1.fed))), box b1 25 ((.slice A1 p0.run.length c1) :: (DA16.cells p0.roles ++ (DA16.cells p0.fed)))] [] _) a w' hf hh
             clear hf hh
             refine T.seq ?_
             refine T.region ?_
             refine T.pure (.bool true) (by kernel_rfl) (fun _ => by kernel_rfl) ?_
             refine T.nil ?_
             cases hX8
             refine T.ret rfl ?_
             repeat first | refine T.unthen ?_ | refine T.unblock ?_
             exact T.ret1 rfl (ResIs.tmp rfl) fun w' hh => ⟨_, rfl, Exists.intro V27 (And.intro (View.le_trans hV25 hV27) (And.intro rfl (hh.sub (.cons_cons _ (.cons_cons _ List.Sublist.slnil)))))⟩
          ·
           rintro v w' ⟨V24, hV24, rfl, hh⟩
           refine ⟨V24, [box b9 25 ((.slice A16 r15.1.run.length c16) :: (DA16.cells r15.1.roles ++ (DA16.cells r15.1.fed))), box b1 25 ((.slice A1 p0.run.length c1) :: (DA16.cells p0.roles ++ (DA16.cells p0.fed)))], hh, ?_⟩
           clear hh
           refine TA.on (Hp.old (View.le_trans hV23 hV24) (View.le_trans (View.le_trans (View.le_trans (View.le_trans (View.le_trans (View.le_trans (View.le_trans (View.le_trans hV1 hV2) hV3) hV4) hV5) hV6) hV13) hV14) hV21) (.cons_cons _ (.cons _ List.Sublist.slnil)) (OldAll.box OldAll.nil)) ?_
           refine TA.take 9 (.bool z8) rfl (by kernel_rfl) (by kernel_rfl) (by kernel_rfl) (fun _ _ _ h => h) (Hp.old (View.le_trans hV23 hV24) (View.le_trans (View.le_trans (View.le_trans (View.le_trans (View.le_trans (View.le_trans (View.le_trans (View.le_trans hV1 hV2) hV3) hV4) hV5) hV6) hV13) hV14) hV21) (.cons_cons _ (.cons _ List.Sublist.slnil)) (OldAll.box OldAll.nil)) (by kernel_rfl) (fun _ _ => by kernel_rfl) ?_
           refine TA.take 10 (.bool z8) rfl (by kernel_rfl) (by kernel_rfl) (by kernel_rfl) (fun _ _ _ h => h) (Hp.old (View.le_trans hV23 hV24) (View.le_trans (View.le_trans (View.le_trans (View.le_trans (View.le_trans (View.le_trans (View.le_trans (View.le_trans hV1 hV2) hV3) hV4) hV5) hV6) hV13) hV14) hV21) (.cons_cons _ (.cons _ List.Sublist.slnil)) (OldAll.box OldAll.nil)) (by kernel_rfl) (fun _ _ => by kernel_rfl) ?_
           refine TA.done (by kernel_rfl) ?_
           cases hX7
           exact fun a w' hf hh => Exists.intro V24 (And.intro (View.le_trans hV23 hV24) (And.intro ((Fr.nil hf).pick hf 10 rfl) (hh.sub (.cons _ (.cons _ List.Sublist.slnil)))))
         ·
          rw [hg10, cond_true] at hX7
          refine TA.takeNo 3 rfl (by kernel_rfl) (by kernel_rfl) (by kernel_rfl) (fun _ _ _ h => h) (Hp.old (View.le_refl _) (View.le_trans (View.le_trans (View.le_trans (View.le_trans (View.le_trans (View.le_trans (View.le_trans (View.le_trans hV1 hV2) hV3) hV4) hV5) hV6) hV13) hV14) hV21) (.cons_cons _ (.cons _ List.Sublist.slnil)) (OldAll.box OldAll.nil)) (by kernel_rfl) (by kernel_rfl) ?_
          refine TA.takeNo 4 rfl (by kernel_rfl) (by kernel_rfl) (by kernel_rfl) (fun _ _ _ h => h) (Hp.old (View.le_refl _) (View.le_trans (View.le_trans (View.le_trans (View.le_trans (View.le_trans (View.le_trans (View.le_trans (View.le_trans hV1 hV2) hV3) hV4) hV5) hV6) hV13) hV14) hV21) (.cons_cons _ (.cons _ List.Sublist.slnil)) (OldAll.box OldAll.nil)) (by kernel_rfl) (by kernel_rfl) ?_
          refine TA.takeNo 5 rfl (by kernel_rfl) (by kernel_rfl) (by kernel_rfl) (fun _ _ _ h => h) (Hp.old (View.le_refl _) (View.le_trans (View.le_trans (View.le_trans (View.le_trans (View.le_trans (View.le_trans (View.le_trans (View.le_trans hV1 hV2) hV3) hV4) hV5) hV6) hV13) hV14) hV21) (.cons_cons _ (.cons _ List.Sublist.slnil)) (OldAll.box OldAll.nil)) (by kernel_rfl) (by kernel_rfl) ?_
          refine TA.takeNo 6 rfl (by kernel_rfl) (by kernel_rfl) (by kernel_rfl) (fun _ _ _ h => h) (Hp.old (View.le_refl _) (View.le_trans (View.le_trans (View.le_trans (View.le_trans (View.le_trans (View.le_trans (View.le_trans (View.le_trans hV1 hV2) hV3) hV4) hV5) hV6) hV13) hV14) hV21) (.cons_cons _ (.cons _ List.Sublist.slnil)) (OldAll.box OldAll.nil)) (by kernel_rfl) (by kernel_rfl) ?_
          refine TA.takeNo 7 rfl (by kernel_rfl) (by kernel_rfl) (by kernel_rfl) (fun _ _ _ h => h) (Hp.old (View.le_refl _) (View.le_trans (View.le_trans (View.le_trans (View.le_trans (View.le_trans (View.le_trans (View.le_trans (View.le_trans hV1 hV2) hV3) hV4) hV5) hV6) hV13) hV14) hV21) (.cons_cons _ (.cons _ List.Sublist.slnil)) (OldAll.box OldAll.nil)) (by kernel_rfl) (by kernel_rfl) ?_
          refine TA.takeNo 8 rfl (by kernel_rfl) (by kernel_rfl) (by kernel_rfl) (fun _ _ _ h => h) (Hp.old (View.le_refl _) (View.le_trans (View.le_trans (View.le_trans (View.le_trans (View.le_trans (View.le_trans (View.le_trans (View.le_trans hV1 hV2) hV3) hV4) hV5) hV6) hV13) hV14) hV21) (.cons_cons _ (.cons _ List.Sublist.slnil)) (OldAll.box OldAll.nil)) (by kernel_rfl) (by kernel_rfl) ?_
          refine TA.take 9 (.bool true) rfl (by kernel_rfl) (by kernel_rfl) (by kernel_rfl) (fun _ _ _ h => h) (Hp.old (View.le_refl _) (View.le_trans (View.le_trans (View.le_trans (View.le_trans (View.le_trans (View.le_trans (View.le_trans (View.le_trans hV1 hV2) hV3) hV4) hV5) hV6) hV13) hV14) hV21) (.cons_cons _ (.cons _ List.Sublist.slnil)) (OldAll.box OldAll.nil)) (by kernel_rfl) (fun _ _ => by kernel_rfl) ?_
          refine TA.take 10 (.bool true) rfl (by kernel_rfl) (by kernel_rfl) (by kernel_rfl) (fun _ _ _ h => h) (Hp.old (View.le_refl _) (View.le_trans (View.le_trans (View.le_trans (View.le_trans (View.le_trans (View.le_trans (View.le_trans (View.le_trans hV1 hV2) hV3) hV4) hV5) hV6) hV13) hV14) hV21) (.cons_cons _ (.cons _ List.Sublist.slnil)) (OldAll.box OldAll.nil)) (by kernel_rfl) (fun _ _ => by kernel_rfl) ?_
          refine TA.done (by kernel_rfl) ?_
          cases hX7
          exact fun a w' hf hh => Exists.intro V21 (And.intro (View.le_refl _) (And.intro ((Fr.nil hf).pick hf 10 rfl) (hh.sub (.cons _ (.cons _ List.Sublist.slnil)))))
        ·
         rintro a w' ⟨V22, hV22, hf, hh⟩
         refine (?_ : T 96 w V22 [] [(10, .bool z7)] _) a w' hf hh
         clear hf hh
         cases hF
         refine T.ret rfl ?_
         exact T.ret1 rfl (ResIs.tmp rfl) fun w' hh => ⟨_, rfl, hh.below, (show _ from rfl)⟩
end Go.Proofs.Ytdggcklddjndmaa
