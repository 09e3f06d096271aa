/- The Go functions of group WRealmTimes compute the pure functions of that group: written by walkgen.py. Condition of each: the pure function yields a result. -/
import Derived.Test.YtomgholekojenaaRealmL
import Derived.Test.YtomgholekojenaaWRealmTimesF
import Derived.Test.YtomgholekojenaaEqL
namespace Go.Proofs.Ytomgholekojenaa
set_option linter.unusedVariables false

set_option maxRecDepth 100000 in
set_option maxHeartbeats 4000000 in
theorem annalkeep_RealmTimes_l (F : Nat) (p0 : ByteArray) (p1 : Int) (p2 : Int) (r : Bool) (hF : annalkeep_RealmTimes F p0 p1 p2 = some r) (w : World)  :
    Calls Try.prog 4 #[.string p0, .int .i64 p1, .int .i64 p2] w (Post (vSc eBool) r w) := by
  unfold annalkeep_RealmTimes at hF
  refine T.start (l := [.string p0, .int .i64 p1, .int .i64 p2]) Try.func4 rfl rfl rfl ?_
  refine T.seq ?_
  refine T.region ?_
  refine T.pure (.bool false) (by kernel_rfl) (fun _ => by kernel_rfl) ?_
  refine T.nil ?_
  refine T.seq ?_
  refine T.region ?_
  obtain ⟨r1, hb1, hF⟩ := Option.bind_eq_some_iff.1 hF
  refine T.step (W1.call (vAg eBook) r1 14 #[] (by kernel_rfl) (fun _ => by kernel_rfl) (fun w' hh => annalkeep_book_l  r1 hb1 w' ) ?_)
  intro u V1 hV1 hu
  obtain ⟨cs1, rfl, hr1⟩ := vagg_elim hu
  obtain ⟨A1, c1, rfl, hs1⟩ := hr1
  refine T.step (W1.new 36 ((.slice none 0 0) :: (DA16.cells (DA16.mk 0 0 0 0 0 0 0 0 0 0 0 0 0 0 0 0) ++ (DA16.cells (DA16.mk 0 0 0 0 0 0 0 0 0 0 0 0 0 0 0 0)))) (fun b => .pointer (some ⟨b, 0, none⟩)) (by kernel_rfl) (fun _ => by kernel_rfl) (fun b1 => ?_))
  refine T.step (W1.store 0 ((.slice A1 r1.run.length c1) :: (DA16.cells r1.roles ++ (DA16.cells r1.fed))) [box b1 36 ((.slice A1 r1.run.length c1) :: (DA16.cells r1.roles ++ (DA16.cells r1.fed)))] (by rfl) rfl (by kernel_rfl) (fun w' hw => exec_store (vs := ((.slice A1 r1.run.length c1) :: (DA16.cells r1.roles ++ (DA16.cells r1.fed)))) rfl rfl rfl rfl (by kernel_rfl) (one_of rfl) (Nat.le_of_ble_eq_true (by rfl)) rfl hw) ?_)
  refine T.nil ?_
  refine T.seq ?_
  refine T.region ?_
  refine T.pure (.pointer (some ⟨b1, 1, none⟩)) (by kernel_rfl) (fun _ => by kernel_rfl) ?_
  refine T.pure (.pointer (some ⟨b1, 2, none⟩)) (by kernel_rfl) (fun _ => by kernel_rfl) ?_
  refine T.step (W1.store 0 ((.slice A1 r1.run.length c1) :: (DA16.cells (DA16.mk r1.roles.x0 1 r1.roles.x2 r1.roles.x3 r1.roles.x4 r1.roles.x5 r1.roles.x6 r1.roles.x7 r1.roles.x8 r1.roles.x9 r1.roles.x10 r1.roles.x11 r1.roles.x12 r1.roles.x13 r1.roles.x14 r1.roles.x15) ++ (DA16.cells r1.fed))) [box b1 36 ((.slice A1 r1.run.length c1) :: (DA16.cells (DA16.mk r1.roles.x0 1 r1.roles.x2 r1.roles.x3 r1.roles.x4 r1.roles.x5 r1.roles.x6 r1.roles.x7 r1.roles.x8 r1.roles.x9 r1.roles.x10 r1.roles.x11 r1.roles.x12 r1.roles.x13 r1.roles.x14 r1.roles.x15) ++ (DA16.cells r1.fed)))] (by rfl) rfl (by kernel_rfl) (fun w' hw => exec_store (vs := [.int .i64 1]) rfl rfl rfl rfl (by kernel_rfl) (one_of rfl) (Nat.le_of_ble_eq_true (by rfl)) rfl hw) ?_)
  refine T.nil ?_
  refine T.seq ?_
  refine T.region ?_
  refine T.pure (.int .i64 p1) (by kernel_rfl) (fun _ => by kernel_rfl) ?_
  obtain ⟨r2, hb2, hF⟩ := Option.bind_eq_some_iff.1 hF
  refine T.step (W1.call (vSc eInt) r2 15 #[.int .i64 p1, .int .i64 1000] (by kernel_rfl) (fun _ => by kernel_rfl) (fun w' hh => annalkeep_Within_l p1 1000 r2 hb2 w' ) ?_)
  intro u V2 hV2 hu
  obtain rfl := sureInt _ _ _ hu
  refine T.pure (.int .i64 (IntKind.i64.wrap (1 + r2))) (by kernel_rfl) (fun _ => by kernel_rfl) ?_
  refine T.pure (.int .i64 p2) (by kernel_rfl) (fun _ => by kernel_rfl) ?_
  obtain ⟨r3, hb3, hF⟩ := Option.bind_eq_some_iff.1 hF
  refine T.step (W1.call (vSc eInt) r3 15 #[.int .i64 p2, .int .i64 1000] (by kernel_rfl) (fun _ => by kernel_rfl) (fun w' hh => annalkeep_Within_l p2 1000 r3 hb3 w' ) ?_)
  intro u V3 hV3 hu
  obtain rfl := sureInt _ _ _ hu
  refine T.pure (.int .i64 (IntKind.i64.wrap (1 + r3))) (by kernel_rfl) (fun _ => by kernel_rfl) ?_
  refine T.pure (.int .i64 (IntKind.i64.wrap (1 + r2))) (by kernel_rfl) (fun _ => by kernel_rfl) ?_
  refine T.pure (.int .i64 (IntKind.i64.wrap (1 + r3))) (by kernel_rfl) (fun _ => by kernel_rfl) ?_
  refine T.nil ?_
  refine T.seq ?_
  refine T.region ?_
  refine T.look (.agg (List.toArray ((.slice A1 r1.run.length c1) :: (DA16.cells (DA16.mk r1.roles.x0 1 r1.roles.x2 r1.roles.x3 r1.roles.x4 r1.roles.x5 r1.roles.x6 r1.roles.x7 r1.roles.x8 r1.roles.x9 r1.roles.x10 r1.roles.x11 r1.roles.x12 r1.roles.x13 r1.roles.x14 r1.roles.x15) ++ (DA16.cells r1.fed))))) (by kernel_rfl) (fun w' hh => exec_loadN (cs := ((.slice A1 r1.run.length c1) :: (DA16.cells (DA16.mk r1.roles.x0 1 r1.roles.x2 r1.roles.x3 r1.roles.x4 r1.roles.x5 r1.roles.x6 r1.roles.x7 r1.roles.x8 r1.roles.x9 r1.roles.x10 r1.roles.x11 r1.roles.x12 r1.roles.x13 r1.roles.x14 r1.roles.x15) ++ (DA16.cells r1.fed)))) rfl rfl (by kernel_rfl) (by kernel_rfl) (fun j u hj => (hh.box_at (i := 0) (cs := ((.slice A1 r1.run.length c1) :: (DA16.cells (DA16.mk r1.roles.x0 1 r1.roles.x2 r1.roles.x3 r1.roles.x4 r1.roles.x5 r1.roles.x6 r1.roles.x7 r1.roles.x8 r1.roles.x9 r1.roles.x10 r1.roles.x11 r1.roles.x12 r1.roles.x13 r1.roles.x14 r1.roles.x15) ++ (DA16.cells r1.fed)))) (by rfl) 0 j).trans (seg_at (n := 33) (by rfl) hj))) ?_
  refine T.pure (.agg #[.int .i64 0, .int .i64 0, .int .i64 1]) (by kernel_rfl) (fun _ => by kernel_rfl) ?_
  refine T.pure (.int .i64 (IntKind.i64.wrap (1 + r2))) (by kernel_rfl) (fun _ => by kernel_rfl) ?_
  obtain ⟨r4, hb4, hF⟩ := Option.bind_eq_some_iff.1 hF
  refine T.step (W1.call (vT2 (vAg eBook) (vSc eInt)) r4 16 #[.agg (List.toArray ((.slice A1 r1.run.length c1) :: (DA16.cells (DA16.mk r1.roles.x0 1 r1.roles.x2 r1.roles.x3 r1.roles.x4 r1.roles.x5 r1.roles.x6 r1.roles.x7 r1.roles.x8 r1.roles.x9 r1.roles.x10 r1.roles.x11 r1.roles.x12 r1.roles.x13 r1.roles.x14 r1.roles.x15) ++ (DA16.cells r1.fed)))), .agg #[.int .i64 0, .int .i64 0, .int .i64 1], .string (ByteArray.mk #[97]), .int .i64 (IntKind.i64.wrap (1 + r2))] (by kernel_rfl) (fun _ => by kernel_rfl) (fun w' hh => realm_Put_l F (DBook.mk r1.run (DA16.mk r1.roles.x0 1 r1.roles.x2 r1.roles.x3 r1.roles.x4 r1.roles.x5 r1.roles.x6 r1.roles.x7 r1.roles.x8 r1.roles.x9 r1.roles.x10 r1.roles.x11 r1.roles.x12 r1.roles.x13 r1.roles.x14 r1.roles.x15) r1.fed) (DKey.mk 0 0 1) (ByteArray.mk #[97]) (IntKind.i64.wrap (1 + r2)) r4 hb4 w' A1 c1 (SlOk.mono (SlOk.mono hs1 (View.le_trans (made_le _ _) (View.le_trans hV2 hV3))) hh.view)) ?_)
  intro u V4 hV4 hu
  obtain ⟨u1, u2, rfl, hu1, hu2⟩ := vT2_elim hu
  obtain ⟨cs2, rfl, hr2⟩ := vagg_elim hu1
  obtain ⟨A2, c2, rfl, hs2⟩ := hr2
  obtain rfl := sureInt _ _ _ hu2
  refine T.pure (.tuple #[.agg (List.toArray ((.slice A2 r4.1.run.length c2) :: (DA16.cells r4.1.roles ++ (DA16.cells r4.1.fed)))), .int .i64 r4.2]) (by kernel_rfl) (fun _ => by kernel_rfl) ?_
  refine T.pure (.agg (List.toArray ((.slice A2 r4.1.run.length c2) :: (DA16.cells r4.1.roles ++ (DA16.cells r4.1.fed))))) (by kernel_rfl) (fun _ => by kernel_rfl) ?_
  refine T.pure (.int .i64 r4.2) (by kernel_rfl) (fun _ => by kernel_rfl) ?_
  refine T.step (W1.store 0 ((.slice A2 r4.1.run.length c2) :: (DA16.cells r4.1.roles ++ (DA16.cells r4.1.fed))) [box b1 36 ((.slice A2 r4.1.run.length c2) :: (DA16.cells r4.1.roles ++ (DA16.cells r4.1.fed)))] (by rfl) rfl (by kernel_rfl) (fun w' hw => exec_store (vs := ((.slice A2 r4.1.run.length c2) :: (DA16.cells r4.1.roles ++ (DA16.cells r4.1.fed)))) rfl rfl rfl rfl (by kernel_rfl) (one_of rfl) (Nat.le_of_ble_eq_true (by rfl)) rfl hw) ?_)
  refine T.pure (.int .i64 r4.2) (by kernel_rfl) (fun _ => by kernel_rfl) ?_
  refine T.nil ?_
  refine T.seq ?_
  refine T.cut (fun a w' => Fr 78 [(0, .string p0), (1, .int .i64 (IntKind.i64.wrap (1 + r2))), (2, .int .i64 (IntKind.i64.wrap (1 + r3))), (7, .pointer (some ⟨b1, 0, none⟩)), (35, .bool ((r4.2 != 0) || ((r4.1.run.length : Int) != 1)))] a ∧ Hp w V4 [box b1 36 ((.slice A2 r4.1.run.length c2) :: (DA16.cells r4.1.roles ++ (DA16.cells r4.1.fed)))] w') ?_ ?_
  ·
    refine T.region ?_
    refine T.pure (.int .i64 r4.2) (by kernel_rfl) (fun _ => by kernel_rfl) ?_
    refine T.pure (.bool (r4.2 != 0)) (by kernel_rfl) (fun _ => by kernel_rfl) ?_
    refine T.pure (.bool (r4.2 != 0)) (by kernel_rfl) (fun _ => by kernel_rfl) ?_
    cases hg1 : (r4.2 != 0)
    ·
      skip
      refine T.pure (.pointer (some ⟨b1, 0, none⟩)) (by kernel_rfl) (fun _ => by kernel_rfl) ?_
      refine T.look (.slice A2 r4.1.run.length c2) (by kernel_rfl) (fun w' hh => exec_load1 rfl rfl (by kernel_rfl) (hh.cellBox (i := 0) (by rfl) 0)) ?_
      refine T.pure (.int .i64 (r4.1.run.length : Int)) (by kernel_rfl) (fun _ => by kernel_rfl) ?_
      refine T.pure (.bool ((r4.1.run.length : Int) != 1)) (by kernel_rfl) (fun _ => by kernel_rfl) ?_
      refine T.pure (.bool ((r4.1.run.length : Int) != 1)) (by kernel_rfl) (fun _ => by kernel_rfl) ?_
      refine T.nil ?_
      exact fun a w' hf hh => And.intro ((((((Fr.nil hf).pick hf 35 rfl).pick hf 7 rfl).pick hf 2 rfl).pick hf 1 rfl).pick hf 0 rfl) (hh.sub (.cons_cons _ List.Sublist.slnil))
    ·
      skip
      refine T.pass (by kernel_rfl) (by kernel_rfl) ?_
      refine T.pass (by kernel_rfl) (by kernel_rfl) ?_
      refine T.pass (by kernel_rfl) (by kernel_rfl) ?_
      refine T.pass (by kernel_rfl) (by kernel_rfl) ?_
      refine T.pure (.bool true) (by kernel_rfl) (fun _ => by kernel_rfl) ?_
      refine T.nil ?_
      exact fun a w' hf hh => And.intro ((((((Fr.nil hf).pick hf 35 rfl).pick hf 7 rfl).pick hf 2 rfl).pick hf 1 rfl).pick hf 0 rfl) (hh.sub (.cons_cons _ List.Sublist.slnil))
  ·
    rintro a w' ⟨hf, hh⟩
    refine (?_ : T 78 w V4 [box b1 36 ((.slice A2 r4.1.run.length c2) :: (DA16.cells r4.1.roles ++ (DA16.cells r4.1.fed)))] [(0, .string p0), (1, .int .i64 (IntKind.i64.wrap (1 + r2))), (2, .int .i64 (IntKind.i64.wrap (1 + r3))), (7, .pointer (some ⟨b1, 0, none⟩)), (35, .bool ((r4.2 != 0) || ((r4.1.run.length : Int) != 1)))] _) a w' hf hh
    clear hf hh
    refine T.cond ((r4.2 != 0) || ((r4.1.run.length : Int) != 1)) (by kernel_rfl) (by kernel_rfl) (fun hc1 => ?_) (fun hc1 => ?_)
    ·
      rw [hc1, cond_true] at hF
      refine T.seq ?_
      refine T.region ?_
      refine T.pure (.bool false) (by kernel_rfl) (fun _ => by kernel_rfl) ?_
      refine T.nil ?_
      cases hF
      refine T.ret rfl ?_
      exact T.ret1 rfl (ResIs.tmp rfl) fun w' hh => ⟨_, rfl, hh.below, (show _ from rfl)⟩
    ·
      rw [hc1, cond_false] at hF
      refine T.skip_code ?_
      refine T.seq ?_
      refine T.region ?_
      refine T.look (.agg (List.toArray ((.slice A2 r4.1.run.length c2) :: (DA16.cells r4.1.roles ++ (DA16.cells r4.1.fed))))) (by kernel_rfl) (fun w' hh => exec_loadN (cs := ((.slice A2 r4.1.run.length c2) :: (DA16.cells r4.1.roles ++ (DA16.cells r4.1.fed)))) rfl rfl (by kernel_rfl) (by kernel_rfl) (fun j u hj => (hh.box_at (i := 0) (cs := ((.slice A2 r4.1.run.length c2) :: (DA16.cells r4.1.roles ++ (DA16.cells r4.1.fed)))) (by rfl) 0 j).trans (seg_at (n := 33) (by rfl) hj))) ?_
      refine T.pure (.agg #[.int .i64 1, .int .i64 0, .int .i64 0]) (by kernel_rfl) (fun _ => by kernel_rfl) ?_
      refine T.pure (.string p0) (by kernel_rfl) (fun _ => by kernel_rfl) ?_
      refine T.pure (.int .i64 (IntKind.i64.wrap (1 + r3))) (by kernel_rfl) (fun _ => by kernel_rfl) ?_
      obtain ⟨r5, hb5, hF⟩ := Option.bind_eq_some_iff.1 hF
      refine T.step (W1.call (vT2 (vAg eBook) (vSc eInt)) r5 16 #[.agg (List.toArray ((.slice A2 r4.1.run.length c2) :: (DA16.cells r4.1.roles ++ (DA16.cells r4.1.fed)))), .agg #[.int .i64 1, .int .i64 0, .int .i64 0], .string p0, .int .i64 (IntKind.i64.wrap (1 + r3))] (by kernel_rfl) (fun _ => by kernel_rfl) (fun w' hh => realm_Put_l F r4.1 (DKey.mk 1 0 0) p0 (IntKind.i64.wrap (1 + r3)) r5 hb5 w' A2 c2 (SlOk.mono (SlOk.mono hs2 (View.le_trans (made_le _ _) (View.le_refl _))) hh.view)) ?_)
      intro u V5 hV5 hu
      obtain ⟨u3, u4, rfl, hu3, hu4⟩ := vT2_elim hu
      obtain ⟨cs3, rfl, hr3⟩ := vagg_elim hu3
      obtain ⟨A3, c3, rfl, hs3⟩ := hr3
      obtain rfl := sureInt _ _ _ hu4
      refine T.pure (.tuple #[.agg (List.toArray ((.slice A3 r5.1.run.length c3) :: (DA16.cells r5.1.roles ++ (DA16.cells r5.1.fed)))), .int .i64 r5.2]) (by kernel_rfl) (fun _ => by kernel_rfl) ?_
      refine T.pure (.agg (List.toArray ((.slice A3 r5.1.run.length c3) :: (DA16.cells r5.1.roles ++ (DA16.cells r5.1.fed))))) (by kernel_rfl) (fun _ => by kernel_rfl) ?_
      refine T.pure (.int .i64 r5.2) (by kernel_rfl) (fun _ => by kernel_rfl) ?_
      refine T.step (W1.new 36 ((.slice none 0 0) :: (DA16.cells (DA16.mk 0 0 0 0 0 0 0 0 0 0 0 0 0 0 0 0) ++ (DA16.cells (DA16.mk 0 0 0 0 0 0 0 0 0 0 0 0 0 0 0 0)))) (fun b => .pointer (some ⟨b, 0, none⟩)) (by kernel_rfl) (fun _ => by kernel_rfl) (fun b2 => ?_))
      refine T.step (W1.store 0 ((.slice A3 r5.1.run.length c3) :: (DA16.cells r5.1.roles ++ (DA16.cells r5.1.fed))) [box b2 36 ((.slice A3 r5.1.run.length c3) :: (DA16.cells r5.1.roles ++ (DA16.cells r5.1.fed))), box b1 36 ((.slice A2 r4.1.run.length c2) :: (DA16.cells r4.1.roles ++ (DA16.cells r4.1.fed)))] (by rfl) rfl (by kernel_rfl) (fun w' hw => exec_store (vs := ((.slice A3 r5.1.run.length c3) :: (DA16.cells r5.1.roles ++ (DA16.cells r5.1.fed)))) rfl rfl rfl rfl (by kernel_rfl) (one_of rfl) (Nat.le_of_ble_eq_true (by rfl)) rfl hw) ?_)
      refine T.pure (.int .i64 r5.2) (by kernel_rfl) (fun _ => by kernel_rfl) ?_
      refine T.nil ?_
      refine T.seq ?_
      refine T.seq ?_
      refine T.region ?_
      refine T.pure (.string p0) (by kernel_rfl) (fun _ => by kernel_rfl) ?_
      refine T.pure (.int .i64 (p0.size : Int)) (by kernel_rfl) (fun _ => by kernel_rfl) ?_
      refine T.pure (.bool (decide ((40 : Int) < (p0.size : Int)))) (by kernel_rfl) (fun _ => by kernel_rfl) ?_
      refine T.nil ?_
      refine T.cond (decide ((40 : Int) < (p0.size : Int))) (by kernel_rfl) (by kernel_rfl) (fun hc2 => ?_) (fun hc2 => ?_)
      ·
        rw [hc2, cond_true] at hF
        refine T.seq ?_
        refine T.region ?_
        refine T.pure (.int .i64 r5.2) (by kernel_rfl) (fun _ => by kernel_rfl) ?_
        refine T.pure (.bool (r5.2 == 2)) (by kernel_rfl) (fun _ => by kernel_rfl) ?_
        refine T.pure (.bool (r5.2 == 2)) (by kernel_rfl) (fun _ => by kernel_rfl) ?_
        refine T.nil ?_
        cases hF
        refine T.ret rfl ?_
        exact T.ret1 rfl (ResIs.tmp rfl) fun w' hh => ⟨_, rfl, hh.below, (show _ from rfl)⟩
      ·
        rw [hc2, cond_false] at hF
        refine T.skip_code ?_
        refine T.seq ?_
        refine T.region ?_
        refine T.look (.agg (List.toArray ((.slice A3 r5.1.run.length c3) :: (DA16.cells r5.1.roles ++ (DA16.cells r5.1.fed))))) (by kernel_rfl) (fun w' hh => exec_loadN (cs := ((.slice A3 r5.1.run.length c3) :: (DA16.cells r5.1.roles ++ (DA16.cells r5.1.fed)))) rfl rfl (by kernel_rfl) (by kernel_rfl) (fun j u hj => (hh.box_at (i := 0) (cs := ((.slice A3 r5.1.run.length c3) :: (DA16.cells r5.1.roles ++ (DA16.cells r5.1.fed)))) (by rfl) 0 j).trans (seg_at (n := 33) (by rfl) hj))) ?_
        refine T.pure (.agg #[.int .i64 0, .int .i64 0, .int .i64 2]) (by kernel_rfl) (fun _ => by kernel_rfl) ?_
        refine T.pure (.int .i64 (IntKind.i64.wrap (1 + r2))) (by kernel_rfl) (fun _ => by kernel_rfl) ?_
        refine T.pure (.int .i64 (IntKind.i64.wrap ((IntKind.i64.wrap (1 + r2)) - 1))) (by kernel_rfl) (fun _ => by kernel_rfl) ?_
        obtain ⟨r6, hb6, hF⟩ := Option.bind_eq_some_iff.1 hF
        refine T.step (W1.call (vT2 (vAg eBook) (vSc eInt)) r6 16 #[.agg (List.toArray ((.slice A3 r5.1.run.length c3) :: (DA16.cells r5.1.roles ++ (DA16.cells r5.1.fed)))), .agg #[.int .i64 0, .int .i64 0, .int .i64 2], .string (ByteArray.mk #[98]), .int .i64 (IntKind.i64.wrap ((IntKind.i64.wrap (1 + r2)) - 1))] (by kernel_rfl) (fun _ => by kernel_rfl) (fun w' hh => realm_Put_l F r5.1 (DKey.mk 0 0 2) (ByteArray.mk #[98]) (IntKind.i64.wrap ((IntKind.i64.wrap (1 + r2)) - 1)) r6 hb6 w' A3 c3 (SlOk.mono (SlOk.mono hs3 (View.le_trans (made_le _ _) (View.le_refl _))) hh.view)) ?_)
        intro u V6 hV6 hu
        obtain ⟨u5, u6, rfl, hu5, hu6⟩ := vT2_elim hu
        obtain ⟨cs4, rfl, hr4⟩ := vagg_elim hu5
        obtain ⟨A4, c4, rfl, hs4⟩ := hr4
        obtain rfl := sureInt _ _ _ hu6
        refine T.pure (.tuple #[.agg (List.toArray ((.slice A4 r6.1.run.length c4) :: (DA16.cells r6.1.roles ++ (DA16.cells r6.1.fed)))), .int .i64 r6.2]) (by kernel_rfl) (fun _ => by kernel_rfl) ?_
        refine T.pure (.agg (List.toArray ((.slice A4 r6.1.run.length c4) :: (DA16.cells r6.1.roles ++ (DA16.cells r6.1.fed))))) (by kernel_rfl) (fun _ => by kernel_rfl) ?_
        refine T.pure (.int .i64 r6.2) (by kernel_rfl) (fun _ => by kernel_rfl) ?_
        refine T.step (W1.new 36 ((.slice none 0 0) :: (DA16.cells (DA16.mk 0 0 0 0 0 0 0 0 0 0 0 0 0 0 0 0) ++ (DA16.cells (DA16.mk 0 0 0 0 0 0 0 0 0 0 0 0 0 0 0 0)))) (fun b => .pointer (some ⟨b, 0, none⟩)) (by kernel_rfl) (fun _ => by kernel_rfl) (fun b3 => ?_))
        refine T.step (W1.store 0 ((.slice A4 r6.1.run.length c4) :: (DA16.cells r6.1.roles ++ (DA16.cells r6.1.fed))) [box b3 36 ((.slice A4 r6.1.run.length c4) :: (DA16.cells r6.1.roles ++ (DA16.cells r6.1.fed))), box b2 36 ((.slice A3 r5.1.run.length c3) :: (DA16.cells r5.1.roles ++ (DA16.cells r5.1.fed))), box b1 36 ((.slice A2 r4.1.run.length c2) :: (DA16.cells r4.1.roles ++ (DA16.cells r4.1.fed)))] (by rfl) rfl (by kernel_rfl) (fun w' hw => exec_store (vs := ((.slice A4 r6.1.run.length c4) :: (DA16.cells r6.1.roles ++ (DA16.cells r6.1.fed)))) rfl rfl rfl rfl (by kernel_rfl) (one_of rfl) (Nat.le_of_ble_eq_true (by rfl)) rfl hw) ?_)
        refine T.pure (.int .i64 r6.2) (by kernel_rfl) (fun _ => by kernel_rfl) ?_
        refine T.nil ?_
        obtain ⟨z1, hX1, hF⟩ := Option.bind_eq_some_iff.1 hF
        refine T.cut (fun a w' => Fr 78 [(6, .bool z1)] a ∧ Hp w V6 [] w') ?_ ?_
        ·
          refine T.region ?_
          refine T.pure (.int .i64 r5.2) (by kernel_rfl) (fun _ => by kernel_rfl) ?_
          refine T.pure (.bool (r5.2 == 0)) (by kernel_rfl) (fun _ => by kernel_rfl) ?_
          refine T.pure (.bool (r5.2 == 0)) (by kernel_rfl) (fun _ => by kernel_rfl) ?_
          cases hg2 : (r5.2 == 0)
          ·
            skip
            rw [hg2, cond_false] at hX1
            refine T.pass (by kernel_rfl) (by kernel_rfl) ?_
            refine T.pass (by kernel_rfl) (by kernel_rfl) ?_
            refine T.pass (by kernel_rfl) (by kernel_rfl) ?_
            refine T.pass (by kernel_rfl) (by kernel_rfl) ?_
            refine T.pure (.bool false) (by kernel_rfl) (fun _ => by kernel_rfl) ?_
            refine T.pure (.bool false) (by kernel_rfl) (fun _ => by kernel_rfl) ?_
            refine T.pass (by kernel_rfl) (by kernel_rfl) ?_
            refine T.pass (by kernel_rfl) (by kernel_rfl) ?_
            refine T.pass (by kernel_rfl) (by kernel_rfl) ?_
            refine T.pass (by kernel_rfl) (by kernel_rfl) ?_
            refine T.pass (by kernel_rfl) (by kernel_rfl) ?_
            refine T.pass (by kernel_rfl) (by kernel_rfl) ?_
            refine T.pass (by kernel_rfl) (by kernel_rfl) ?_
            refine T.pure (.bool false) (by kernel_rfl) (fun _ => by kernel_rfl) ?_
            refine T.pure (.bool false) (by kernel_rfl) (fun _ => by kernel_rfl) ?_
            refine T.pass (by kernel_rfl) (by kernel_rfl) ?_
            refine T.pass (by kernel_rfl) (by kernel_rfl) ?_
            refine T.pure (.bool false) (by kernel_rfl) (fun _ => by kernel_rfl) ?_
            refine T.pure (.bool false) (by kernel_rfl) (fun _ => by kernel_rfl) ?_
            refine T.nil ?_
            cases hX1
            exact fun a w' hf hh => And.intro ((Fr.nil hf).pick hf 6 rfl) (hh.sub (.cons _ (.cons _ (.cons _ List.Sublist.slnil))))
          ·
            skip
            rw [hg2, cond_true] at hX1
            refine T.pure (.pointer (some ⟨b2, 0, none⟩)) (by kernel_rfl) (fun _ => by kernel_rfl) ?_
            refine T.look (.slice A3 r5.1.run.length c3) (by kernel_rfl) (fun w' hh => exec_load1 rfl rfl (by kernel_rfl) (hh.cellBox (i := 1) (by rfl) 0)) ?_
            refine T.pure (.int .i64 (r5.1.run.length : Int)) (by kernel_rfl) (fun _ => by kernel_rfl) ?_
            refine T.pure (.bool ((r5.1.run.length : Int) == 2)) (by kernel_rfl) (fun _ => by kernel_rfl) ?_
            refine T.pure (.bool ((r5.1.run.length : Int) == 2)) (by kernel_rfl) (fun _ => by kernel_rfl) ?_
            refine T.pure (.bool ((r5.1.run.length : Int) == 2)) (by kernel_rfl) (fun _ => by kernel_rfl) ?_
            cases hg3 : ((r5.1.run.length : Int) == 2)
            ·
              skip
              rw [hg3, cond_false] at hX1
              refine T.pass (by kernel_rfl) (by kernel_rfl) ?_
              refine T.pass (by kernel_rfl) (by kernel_rfl) ?_
              refine T.pass (by kernel_rfl) (by kernel_rfl) ?_
              refine T.pass (by kernel_rfl) (by kernel_rfl) ?_
              refine T.pass (by kernel_rfl) (by kernel_rfl) ?_
              refine T.pass (by kernel_rfl) (by kernel_rfl) ?_
              refine T.pass (by kernel_rfl) (by kernel_rfl) ?_
              refine T.pure (.bool false) (by kernel_rfl) (fun _ => by kernel_rfl) ?_
              refine T.pure (.bool false) (by kernel_rfl) (fun _ => by kernel_rfl) ?_
              refine T.pass (by kernel_rfl) (by kernel_rfl) ?_
              refine T.pass (by kernel_rfl) (by kernel_rfl) ?_
              refine T.pure (.bool false) (by kernel_rfl) (fun _ => by kernel_rfl) ?_
              refine T.pure (.bool false) (by kernel_rfl) (fun _ => by kernel_rfl) ?_
              refine T.nil ?_
              cases hX1
              exact fun a w' hf hh => And.intro ((Fr.nil hf).pick hf 6 rfl) (hh.sub (.cons _ (.cons _ (.cons _ List.Sublist.slnil))))
            ·
              skip
              rw [hg3, cond_true] at hX1
              refine T.pure (.pointer (some ⟨b2, 0, none⟩)) (by kernel_rfl) (fun _ => by kernel_rfl) ?_
              refine T.look (.slice A3 r5.1.run.length c3) (by kernel_rfl) (fun w' hh => exec_load1 rfl rfl (by kernel_rfl) (hh.cellBox (i := 1) (by rfl) 0)) ?_
              obtain ⟨e1, hb7, hX1⟩ := Option.bind_eq_some_iff.1 hX1
              obtain ⟨hi1, hi2, hi3⟩ := idx_some hb7
              refine T.look (.pointer (some ((sadr A3).add (((1 : Int).toNat) * 6)))) (by kernel_rfl) (fun w' hh => exec_indexAddr (e := 44) (s := 6) rfl rfl rfl (by kernel_rfl) (by kernel_rfl) hi1 hi2 ((SlOk.mono hs3 (View.le_trans (made_le _ _) hV6)).some_ hi3 (by decide))) ?_
              refine T.pure (.pointer (some (((sadr A3).add (((1 : Int).toNat) * 6)).add 3))) (by kernel_rfl) (fun _ => by kernel_rfl) ?_
              refine T.look (.int .i64 e1.made) (by kernel_rfl) (fun w' hh => exec_load1 rfl rfl (by kernel_rfl) (hh.cell_view (SlOk.cellF (E := eElem) (SlOk.mono hs3 (View.le_trans (made_le _ _) hV6)) hi3 3 (fun _ _ _ h => h) rfl))) ?_
              refine T.pure (.int .i64 (IntKind.i64.wrap (1 + r3))) (by kernel_rfl) (fun _ => by kernel_rfl) ?_
              refine T.pure (.bool (e1.made == (IntKind.i64.wrap (1 + r3)))) (by kernel_rfl) (fun _ => by kernel_rfl) ?_
              refine T.pure (.bool (e1.made == (IntKind.i64.wrap (1 + r3)))) (by kernel_rfl) (fun _ => by kernel_rfl) ?_
              refine T.pure (.bool (e1.made == (IntKind.i64.wrap (1 + r3)))) (by kernel_rfl) (fun _ => by kernel_rfl) ?_
              cases hg4 : (e1.made == (IntKind.i64.wrap (1 + r3)))
              ·
                skip
                rw [hg4, cond_false] at hX1
                refine T.pass (by kernel_rfl) (by kernel_rfl) ?_
                refine T.pass (by kernel_rfl) (by kernel_rfl) ?_
                refine T.pure (.bool false) (by kernel_rfl) (fun _ => by kernel_rfl) ?_
                refine T.pure (.bool false) (by kernel_rfl) (fun _ => by kernel_rfl) ?_
                refine T.nil ?_
                cases hX1
                exact fun a w' hf hh => And.intro ((Fr.nil hf).pick hf 6 rfl) (hh.sub (.cons _ (.cons _ (.cons _ List.Sublist.slnil))))
              ·
                skip
                rw [hg4, cond_true] at hX1
                refine T.pure (.int .i64 r6.2) (by kernel_rfl) (fun _ => by kernel_rfl) ?_
                refine T.pure (.bool (r6.2 == 9)) (by kernel_rfl) (fun _ => by kernel_rfl) ?_
                refine T.pure (.bool (r6.2 == 9)) (by kernel_rfl) (fun _ => by kernel_rfl) ?_
                refine T.pure (.bool (r6.2 == 9)) (by kernel_rfl) (fun _ => by kernel_rfl) ?_
                refine T.nil ?_
                cases hX1
                exact fun a w' hf hh => And.intro ((Fr.nil hf).pick hf 6 rfl) (hh.sub (.cons _ (.cons _ (.cons _ List.Sublist.slnil))))
        ·
          rintro a w' ⟨hf, hh⟩
          refine (?_ : T 78 w V6 [] [(6, .bool z1)] _) a w' hf hh
          clear hf hh
          cases hF
          refine T.ret rfl ?_
          exact T.ret1 rfl (ResIs.tmp rfl) fun w' hh => ⟨_, rfl, hh.below, (show _ from rfl)⟩

end Go.Proofs.Ytomgholekojenaa
