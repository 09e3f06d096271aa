/- The Go functions of group WRealmTurns compute the pure functions of that group: written by walkgen.py. Condition of each: the pure function yields a result. -/
import Derived.Test.YtomgholekojenaaTurnL
import Derived.Test.YtomgholekojenaaEqsL
import Derived.Test.YtomgholekojenaaSameL
import Derived.Test.YtomgholekojenaaWRealmTurnsF
import Derived.Test.YtomgholekojenaaEqL
namespace Go.Proofs.Ytomgholekojenaa
set_option linter.unusedVariables false

set_option maxRecDepth 100000 in
set_option maxHeartbeats 4000000 in
theorem annalkeep_RealmTurns_l (F : Nat) (p0 : DBook) (p1 : Int) (r : Bool) (hF : annalkeep_RealmTurns F p0 p1 = some r) (w : World) (A1 : Option Addr) (c1 : Nat) (hs1 : SlOk (vw w) eElem A1 c1 p0.run) :
    Calls Try.prog 7 #[.agg (List.toArray ((.slice A1 p0.run.length c1) :: (DA16.cells p0.roles ++ (DA16.cells p0.fed)))), .int .i64 p1] w (Post (vSc eBool) r w) := by
  unfold annalkeep_RealmTurns at hF
  refine T.start (l := [.agg (List.toArray ((.slice A1 p0.run.length c1) :: (DA16.cells p0.roles ++ (DA16.cells p0.fed)))), .int .i64 p1]) Try.func7 rfl rfl rfl ?_
  refine T.seq ?_
  refine T.region ?_
  refine T.step (W1.new 36 ((.slice A1 p0.run.length c1) :: (DA16.cells p0.roles ++ (DA16.cells p0.fed))) (fun b => .pointer (some ⟨b, 0, none⟩)) (by kernel_rfl) (fun _ => by kernel_rfl) (fun b1 => ?_))
  refine T.pure (.bool false) (by kernel_rfl) (fun _ => by kernel_rfl) ?_
  refine T.nil ?_
  refine T.seq ?_
  refine T.region ?_
  obtain ⟨r1, hb1, hF⟩ := Option.bind_eq_some_iff.1 hF
  refine T.step (W1.call (vAg eBook) r1 14 #[] (by kernel_rfl) (fun _ => by kernel_rfl) (fun w' hh => annalkeep_book_l  r1 hb1 w' ) ?_)
  intro u V1 hV1 hu
  obtain ⟨cs1, rfl, hr1⟩ := vagg_elim hu
  obtain ⟨A2, c2, rfl, hs2⟩ := hr1
  obtain ⟨r2, hb2, hF⟩ := Option.bind_eq_some_iff.1 hF
  refine T.step (W1.call (vT2 (vAg eBook) (vSc eInt)) r2 22 #[.agg (List.toArray ((.slice A2 r1.run.length c2) :: (DA16.cells r1.roles ++ (DA16.cells r1.fed)))), .int .i64 0] (by kernel_rfl) (fun _ => by kernel_rfl) (fun w' hh => realm_Down_l F r1 0 r2 hb2 w' A2 c2 (SlOk.mono (SlOk.mono hs2 (View.le_trans (made_le _ _) (View.le_refl _))) hh.view)) ?_)
  intro u V2 hV2 hu
  obtain ⟨u1, u2, rfl, hu1, hu2⟩ := vT2_elim hu
  obtain ⟨cs2, rfl, hr2⟩ := vagg_elim hu1
  obtain ⟨A3, c3, rfl, hs3⟩ := hr2
  obtain rfl := sureInt _ _ _ hu2
  refine T.pure (.tuple #[.agg (List.toArray ((.slice A3 r2.1.run.length c3) :: (DA16.cells r2.1.roles ++ (DA16.cells r2.1.fed)))), .int .i64 r2.2]) (by kernel_rfl) (fun _ => by kernel_rfl) ?_
  refine T.pure (.agg (List.toArray ((.slice A3 r2.1.run.length c3) :: (DA16.cells r2.1.roles ++ (DA16.cells r2.1.fed))))) (by kernel_rfl) (fun _ => by kernel_rfl) ?_
  refine T.pure (.int .i64 r2.2) (by kernel_rfl) (fun _ => by kernel_rfl) ?_
  refine T.step (W1.new 36 ((.slice none 0 0) :: (DA16.cells (DA16.mk 0 0 0 0 0 0 0 0 0 0 0 0 0 0 0 0) ++ (DA16.cells (DA16.mk 0 0 0 0 0 0 0 0 0 0 0 0 0 0 0 0)))) (fun b => .pointer (some ⟨b, 0, none⟩)) (by kernel_rfl) (fun _ => by kernel_rfl) (fun b2 => ?_))
  refine T.step (W1.store 0 ((.slice A3 r2.1.run.length c3) :: (DA16.cells r2.1.roles ++ (DA16.cells r2.1.fed))) [box b2 36 ((.slice A3 r2.1.run.length c3) :: (DA16.cells r2.1.roles ++ (DA16.cells r2.1.fed))), box b1 36 ((.slice A1 p0.run.length c1) :: (DA16.cells p0.roles ++ (DA16.cells p0.fed)))] (by rfl) rfl (by kernel_rfl) (fun w' hw => exec_store (vs := ((.slice A3 r2.1.run.length c3) :: (DA16.cells r2.1.roles ++ (DA16.cells r2.1.fed)))) rfl rfl rfl rfl (by kernel_rfl) (one_of rfl) (Nat.le_of_ble_eq_true (by rfl)) rfl hw) ?_)
  refine T.pure (.int .i64 r2.2) (by kernel_rfl) (fun _ => by kernel_rfl) ?_
  refine T.nil ?_
  refine T.seq ?_
  refine T.seq ?_
  refine T.region ?_
  refine T.look (.agg (List.toArray ((.slice A3 r2.1.run.length c3) :: (DA16.cells r2.1.roles ++ (DA16.cells r2.1.fed))))) (by kernel_rfl) (fun w' hh => exec_loadN (cs := ((.slice A3 r2.1.run.length c3) :: (DA16.cells r2.1.roles ++ (DA16.cells r2.1.fed)))) rfl rfl (by kernel_rfl) (by kernel_rfl) (fun j u hj => (hh.box_at (i := 0) (cs := ((.slice A3 r2.1.run.length c3) :: (DA16.cells r2.1.roles ++ (DA16.cells r2.1.fed)))) (by rfl) 0 j).trans (seg_at (n := 33) (by rfl) hj))) ?_
  refine T.pure (.agg #[.int .i64 0, .int .i64 0, .int .i64 0]) (by kernel_rfl) (fun _ => by kernel_rfl) ?_
  obtain ⟨r3, hb3, hF⟩ := Option.bind_eq_some_iff.1 hF
  refine T.step (W1.call (vT2 (vAg eBook) (vSc eInt)) r3 16 #[.agg (List.toArray ((.slice A3 r2.1.run.length c3) :: (DA16.cells r2.1.roles ++ (DA16.cells r2.1.fed)))), .agg #[.int .i64 0, .int .i64 0, .int .i64 0], .string (ByteArray.mk #[97]), .int .i64 1] (by kernel_rfl) (fun _ => by kernel_rfl) (fun w' hh => realm_Put_l F r2.1 (DKey.mk 0 0 0) (ByteArray.mk #[97]) 1 r3 hb3 w' A3 c3 (SlOk.mono (SlOk.mono hs3 (View.le_trans (made_le _ _) (View.le_refl _))) hh.view)) ?_)
  intro u V3 hV3 hu
  obtain ⟨u3, u4, rfl, hu3, hu4⟩ := vT2_elim hu
  obtain ⟨cs3, rfl, hr3⟩ := vagg_elim hu3
  obtain ⟨A4, c4, rfl, hs4⟩ := hr3
  obtain rfl := sureInt _ _ _ hu4
  refine T.pure (.tuple #[.agg (List.toArray ((.slice A4 r3.1.run.length c4) :: (DA16.cells r3.1.roles ++ (DA16.cells r3.1.fed)))), .int .i64 r3.2]) (by kernel_rfl) (fun _ => by kernel_rfl) ?_
  refine T.pure (.agg (List.toArray ((.slice A4 r3.1.run.length c4) :: (DA16.cells r3.1.roles ++ (DA16.cells r3.1.fed))))) (by kernel_rfl) (fun _ => by kernel_rfl) ?_
  refine T.pure (.int .i64 r3.2) (by kernel_rfl) (fun _ => by kernel_rfl) ?_
  refine T.step (W1.new 36 ((.slice none 0 0) :: (DA16.cells (DA16.mk 0 0 0 0 0 0 0 0 0 0 0 0 0 0 0 0) ++ (DA16.cells (DA16.mk 0 0 0 0 0 0 0 0 0 0 0 0 0 0 0 0)))) (fun b => .pointer (some ⟨b, 0, none⟩)) (by kernel_rfl) (fun _ => by kernel_rfl) (fun b3 => ?_))
  refine T.step (W1.store 0 ((.slice A4 r3.1.run.length c4) :: (DA16.cells r3.1.roles ++ (DA16.cells r3.1.fed))) [box b3 36 ((.slice A4 r3.1.run.length c4) :: (DA16.cells r3.1.roles ++ (DA16.cells r3.1.fed))), box b2 36 ((.slice A3 r2.1.run.length c3) :: (DA16.cells r2.1.roles ++ (DA16.cells r2.1.fed))), box b1 36 ((.slice A1 p0.run.length c1) :: (DA16.cells p0.roles ++ (DA16.cells p0.fed)))] (by rfl) rfl (by kernel_rfl) (fun w' hw => exec_store (vs := ((.slice A4 r3.1.run.length c4) :: (DA16.cells r3.1.roles ++ (DA16.cells r3.1.fed)))) rfl rfl rfl rfl (by kernel_rfl) (one_of rfl) (Nat.le_of_ble_eq_true (by rfl)) rfl hw) ?_)
  refine T.pure (.int .i64 r3.2) (by kernel_rfl) (fun _ => by kernel_rfl) ?_
  refine T.nil ?_
  refine T.cut (fun a w' => Fr 75 [(1, .int .i64 p1), (2, .pointer (some ⟨b1, 0, none⟩)), (5, .pointer (some ⟨b2, 0, none⟩)), (28, .bool ((r2.2 != 0) || (r3.2 != 10)))] a ∧ Hp w V3 [box b2 36 ((.slice A3 r2.1.run.length c3) :: (DA16.cells r2.1.roles ++ (DA16.cells r2.1.fed))), box b1 36 ((.slice A1 p0.run.length c1) :: (DA16.cells p0.roles ++ (DA16.cells p0.fed)))] w') ?_ ?_
  ·
    refine T.region ?_
    refine T.pure (.int .i64 r2.2) (by kernel_rfl) (fun _ => by kernel_rfl) ?_
    refine T.pure (.bool (r2.2 != 0)) (by kernel_rfl) (fun _ => by kernel_rfl) ?_
    refine T.pure (.bool (r2.2 != 0)) (by kernel_rfl) (fun _ => by kernel_rfl) ?_
    cases hg1 : (r2.2 != 0)
    ·
      skip
      refine T.pure (.int .i64 r3.2) (by kernel_rfl) (fun _ => by kernel_rfl) ?_
      refine T.pure (.bool (r3.2 != 10)) (by kernel_rfl) (fun _ => by kernel_rfl) ?_
      refine T.pure (.bool (r3.2 != 10)) (by kernel_rfl) (fun _ => by kernel_rfl) ?_
      refine T.nil ?_
      exact fun a w' hf hh => And.intro (((((Fr.nil hf).pick hf 28 rfl).pick hf 5 rfl).pick hf 2 rfl).pick hf 1 rfl) (hh.sub (.cons _ (.cons_cons _ (.cons_cons _ List.Sublist.slnil))))
    ·
      skip
      refine T.pass (by kernel_rfl) (by kernel_rfl) ?_
      refine T.pass (by kernel_rfl) (by kernel_rfl) ?_
      refine T.pure (.bool true) (by kernel_rfl) (fun _ => by kernel_rfl) ?_
      refine T.nil ?_
      exact fun a w' hf hh => And.intro (((((Fr.nil hf).pick hf 28 rfl).pick hf 5 rfl).pick hf 2 rfl).pick hf 1 rfl) (hh.sub (.cons _ (.cons_cons _ (.cons_cons _ List.Sublist.slnil))))
  ·
    rintro a w' ⟨hf, hh⟩
    refine (?_ : T 75 w V3 [box b2 36 ((.slice A3 r2.1.run.length c3) :: (DA16.cells r2.1.roles ++ (DA16.cells r2.1.fed))), box b1 36 ((.slice A1 p0.run.length c1) :: (DA16.cells p0.roles ++ (DA16.cells p0.fed)))] [(1, .int .i64 p1), (2, .pointer (some ⟨b1, 0, none⟩)), (5, .pointer (some ⟨b2, 0, none⟩)), (28, .bool ((r2.2 != 0) || (r3.2 != 10)))] _) a w' hf hh
    clear hf hh
    refine T.cond ((r2.2 != 0) || (r3.2 != 10)) (by kernel_rfl) (by kernel_rfl) (fun hc1 => ?_) (fun hc1 => ?_)
    ·
      rw [hc1, cond_true] at hF
      refine T.seq ?_
      refine T.region ?_
      refine T.pure (.bool false) (by kernel_rfl) (fun _ => by kernel_rfl) ?_
      refine T.nil ?_
      cases hF
      refine T.ret rfl ?_
      exact T.ret1 rfl (ResIs.tmp rfl) fun w' hh => ⟨_, rfl, hh.below, (show _ from rfl)⟩
    ·
      rw [hc1, cond_false] at hF
      refine T.skip_code ?_
      refine T.seq ?_
      refine T.region ?_
      refine T.look (.agg (List.toArray ((.slice A1 p0.run.length c1) :: (DA16.cells p0.roles ++ (DA16.cells p0.fed))))) (by kernel_rfl) (fun w' hh => exec_loadN (cs := ((.slice A1 p0.run.length c1) :: (DA16.cells p0.roles ++ (DA16.cells p0.fed)))) rfl rfl (by kernel_rfl) (by kernel_rfl) (fun j u hj => (hh.box_at (i := 1) (cs := ((.slice A1 p0.run.length c1) :: (DA16.cells p0.roles ++ (DA16.cells p0.fed)))) (by rfl) 0 j).trans (seg_at (n := 33) (by rfl) hj))) ?_
      refine T.pure (.int .i64 p1) (by kernel_rfl) (fun _ => by kernel_rfl) ?_
      obtain ⟨r4, hb4, hF⟩ := Option.bind_eq_some_iff.1 hF
      refine T.step (W1.call (vT2 (vAg eBook) (vSc eInt)) r4 22 #[.agg (List.toArray ((.slice A1 p0.run.length c1) :: (DA16.cells p0.roles ++ (DA16.cells p0.fed)))), .int .i64 p1] (by kernel_rfl) (fun _ => by kernel_rfl) (fun w' hh => realm_Down_l F p0 p1 r4 hb4 w' A1 c1 (SlOk.mono (SlOk.mono hs1 (View.le_trans (View.le_trans hV1 hV2) hV3)) hh.view)) ?_)
      intro u V4 hV4 hu
      obtain ⟨u5, u6, rfl, hu5, hu6⟩ := vT2_elim hu
      obtain ⟨cs4, rfl, hr4⟩ := vagg_elim hu5
      obtain ⟨A5, c5, rfl, hs5⟩ := hr4
      obtain rfl := sureInt _ _ _ hu6
      refine T.pure (.tuple #[.agg (List.toArray ((.slice A5 r4.1.run.length c5) :: (DA16.cells r4.1.roles ++ (DA16.cells r4.1.fed)))), .int .i64 r4.2]) (by kernel_rfl) (fun _ => by kernel_rfl) ?_
      refine T.pure (.agg (List.toArray ((.slice A5 r4.1.run.length c5) :: (DA16.cells r4.1.roles ++ (DA16.cells r4.1.fed))))) (by kernel_rfl) (fun _ => by kernel_rfl) ?_
      refine T.pure (.int .i64 r4.2) (by kernel_rfl) (fun _ => by kernel_rfl) ?_
      refine T.step (W1.store 0 ((.slice A5 r4.1.run.length c5) :: (DA16.cells r4.1.roles ++ (DA16.cells r4.1.fed))) [box b2 36 ((.slice A5 r4.1.run.length c5) :: (DA16.cells r4.1.roles ++ (DA16.cells r4.1.fed))), box b1 36 ((.slice A1 p0.run.length c1) :: (DA16.cells p0.roles ++ (DA16.cells p0.fed)))] (by rfl) rfl (by kernel_rfl) (fun w' hw => exec_store (vs := ((.slice A5 r4.1.run.length c5) :: (DA16.cells r4.1.roles ++ (DA16.cells r4.1.fed)))) rfl rfl rfl rfl (by kernel_rfl) (one_of rfl) (Nat.le_of_ble_eq_true (by rfl)) rfl hw) ?_)
      refine T.pure (.int .i64 r4.2) (by kernel_rfl) (fun _ => by kernel_rfl) ?_
      refine T.nil ?_
      refine T.seq ?_
      refine T.seq ?_
      refine T.region ?_
      refine T.pure (.int .i64 r4.2) (by kernel_rfl) (fun _ => by kernel_rfl) ?_
      refine T.pure (.bool (r4.2 != 0)) (by kernel_rfl) (fun _ => by kernel_rfl) ?_
      refine T.nil ?_
      refine T.cond (r4.2 != 0) (by kernel_rfl) (by kernel_rfl) (fun hc2 => ?_) (fun hc2 => ?_)
      ·
        rw [hc2, cond_true] at hF
        refine T.seq ?_
        refine T.region ?_
        refine T.look (.agg (List.toArray ((.slice A5 r4.1.run.length c5) :: (DA16.cells r4.1.roles ++ (DA16.cells r4.1.fed))))) (by kernel_rfl) (fun w' hh => exec_loadN (cs := ((.slice A5 r4.1.run.length c5) :: (DA16.cells r4.1.roles ++ (DA16.cells r4.1.fed)))) rfl rfl (by kernel_rfl) (by kernel_rfl) (fun j u hj => (hh.box_at (i := 0) (cs := ((.slice A5 r4.1.run.length c5) :: (DA16.cells r4.1.roles ++ (DA16.cells r4.1.fed)))) (by rfl) 0 j).trans (seg_at (n := 33) (by rfl) hj))) ?_
        refine T.pure (.agg (List.toArray ((.slice none 0 0) :: (DA16.cells (DA16.mk 0 0 0 0 0 0 0 0 0 0 0 0 0 0 0 0) ++ (DA16.cells (DA16.mk 0 0 0 0 0 0 0 0 0 0 0 0 0 0 0 0)))))) (by kernel_rfl) (fun _ => by kernel_rfl) ?_
        obtain ⟨r5, hb5, hF⟩ := Option.bind_eq_some_iff.1 hF
        refine T.step (W1.call (vSc eBool) r5 23 #[.agg (List.toArray ((.slice A5 r4.1.run.length c5) :: (DA16.cells r4.1.roles ++ (DA16.cells r4.1.fed)))), .agg (List.toArray ((.slice none 0 0) :: (DA16.cells (DA16.mk 0 0 0 0 0 0 0 0 0 0 0 0 0 0 0 0) ++ (DA16.cells (DA16.mk 0 0 0 0 0 0 0 0 0 0 0 0 0 0 0 0)))))] (by kernel_rfl) (fun _ => by kernel_rfl) (fun w' hh => annalref_SameBook_l F r4.1 (DBook.mk [] (DA16.mk 0 0 0 0 0 0 0 0 0 0 0 0 0 0 0 0) (DA16.mk 0 0 0 0 0 0 0 0 0 0 0 0 0 0 0 0)) r5 hb5 w' A5 c5 (SlOk.mono (SlOk.mono hs5 (View.le_trans (made_le _ _) (View.le_refl _))) hh.view) none 0 (SlOk.nil _ _)) ?_)
        intro u V5 hV5 hu
        obtain rfl := sureBool _ _ _ hu
        refine T.pure (.bool r5) (by kernel_rfl) (fun _ => by kernel_rfl) ?_
        refine T.nil ?_
        cases hF
        refine T.ret rfl ?_
        exact T.ret1 rfl (ResIs.tmp rfl) fun w' hh => ⟨_, rfl, hh.below, (show _ from rfl)⟩
      ·
        rw [hc2, cond_false] at hF
        refine T.skip_code ?_
        refine T.seq ?_
        refine T.region ?_
        refine T.look (.agg (List.toArray ((.slice A5 r4.1.run.length c5) :: (DA16.cells r4.1.roles ++ (DA16.cells r4.1.fed))))) (by kernel_rfl) (fun w' hh => exec_loadN (cs := ((.slice A5 r4.1.run.length c5) :: (DA16.cells r4.1.roles ++ (DA16.cells r4.1.fed)))) rfl rfl (by kernel_rfl) (by kernel_rfl) (fun j u hj => (hh.box_at (i := 0) (cs := ((.slice A5 r4.1.run.length c5) :: (DA16.cells r4.1.roles ++ (DA16.cells r4.1.fed)))) (by rfl) 0 j).trans (seg_at (n := 33) (by rfl) hj))) ?_
        refine T.pure (.int .i64 p1) (by kernel_rfl) (fun _ => by kernel_rfl) ?_
        obtain ⟨r6, hb6, hF⟩ := Option.bind_eq_some_iff.1 hF
        refine T.step (W1.call (vT2 (vAg eBook) (vSc eInt)) r6 24 #[.agg (List.toArray ((.slice A5 r4.1.run.length c5) :: (DA16.cells r4.1.roles ++ (DA16.cells r4.1.fed)))), .int .i64 p1] (by kernel_rfl) (fun _ => by kernel_rfl) (fun w' hh => realm_Up_l F r4.1 p1 r6 hb6 w' A5 c5 (SlOk.mono (SlOk.mono hs5 (View.le_trans (made_le _ _) (View.le_refl _))) hh.view)) ?_)
        intro u V6 hV6 hu
        obtain ⟨u7, u8, rfl, hu7, hu8⟩ := vT2_elim hu
        obtain ⟨cs5, rfl, hr5⟩ := vagg_elim hu7
        obtain ⟨A6, c6, rfl, hs6⟩ := hr5
        obtain rfl := sureInt _ _ _ hu8
        refine T.pure (.tuple #[.agg (List.toArray ((.slice A6 r6.1.run.length c6) :: (DA16.cells r6.1.roles ++ (DA16.cells r6.1.fed)))), .int .i64 r6.2]) (by kernel_rfl) (fun _ => by kernel_rfl) ?_
        refine T.pure (.agg (List.toArray ((.slice A6 r6.1.run.length c6) :: (DA16.cells r6.1.roles ++ (DA16.cells r6.1.fed))))) (by kernel_rfl) (fun _ => by kernel_rfl) ?_
        refine T.pure (.int .i64 r6.2) (by kernel_rfl) (fun _ => by kernel_rfl) ?_
        refine T.step (W1.new 36 ((.slice none 0 0) :: (DA16.cells (DA16.mk 0 0 0 0 0 0 0 0 0 0 0 0 0 0 0 0) ++ (DA16.cells (DA16.mk 0 0 0 0 0 0 0 0 0 0 0 0 0 0 0 0)))) (fun b => .pointer (some ⟨b, 0, none⟩)) (by kernel_rfl) (fun _ => by kernel_rfl) (fun b4 => ?_))
        refine T.step (W1.store 0 ((.slice A6 r6.1.run.length c6) :: (DA16.cells r6.1.roles ++ (DA16.cells r6.1.fed))) [box b4 36 ((.slice A6 r6.1.run.length c6) :: (DA16.cells r6.1.roles ++ (DA16.cells r6.1.fed))), box b2 36 ((.slice A5 r4.1.run.length c5) :: (DA16.cells r4.1.roles ++ (DA16.cells r4.1.fed))), box b1 36 ((.slice A1 p0.run.length c1) :: (DA16.cells p0.roles ++ (DA16.cells p0.fed)))] (by rfl) rfl (by kernel_rfl) (fun w' hw => exec_store (vs := ((.slice A6 r6.1.run.length c6) :: (DA16.cells r6.1.roles ++ (DA16.cells r6.1.fed)))) rfl rfl rfl rfl (by kernel_rfl) (one_of rfl) (Nat.le_of_ble_eq_true (by rfl)) rfl hw) ?_)
        refine T.pure (.int .i64 r6.2) (by kernel_rfl) (fun _ => by kernel_rfl) ?_
        refine T.nil ?_
        refine T.seq ?_
        refine T.region ?_
        refine T.look (.agg (List.toArray ((.slice A6 r6.1.run.length c6) :: (DA16.cells r6.1.roles ++ (DA16.cells r6.1.fed))))) (by kernel_rfl) (fun w' hh => exec_loadN (cs := ((.slice A6 r6.1.run.length c6) :: (DA16.cells r6.1.roles ++ (DA16.cells r6.1.fed)))) rfl rfl (by kernel_rfl) (by kernel_rfl) (fun j u hj => (hh.box_at (i := 0) (cs := ((.slice A6 r6.1.run.length c6) :: (DA16.cells r6.1.roles ++ (DA16.cells r6.1.fed)))) (by rfl) 0 j).trans (seg_at (n := 33) (by rfl) hj))) ?_
        refine T.pure (.int .i64 p1) (by kernel_rfl) (fun _ => by kernel_rfl) ?_
        obtain ⟨r7, hb7, hF⟩ := Option.bind_eq_some_iff.1 hF
        refine T.step (W1.call (vT2 (vAg eBook) (vSc eInt)) r7 24 #[.agg (List.toArray ((.slice A6 r6.1.run.length c6) :: (DA16.cells r6.1.roles ++ (DA16.cells r6.1.fed)))), .int .i64 p1] (by kernel_rfl) (fun _ => by kernel_rfl) (fun w' hh => realm_Up_l F r6.1 p1 r7 hb7 w' A6 c6 (SlOk.mono (SlOk.mono hs6 (View.le_trans (made_le _ _) (View.le_refl _))) hh.view)) ?_)
        intro u V7 hV7 hu
        obtain ⟨u9, u10, rfl, hu9, hu10⟩ := vT2_elim hu
        obtain ⟨cs6, rfl, hr6⟩ := vagg_elim hu9
        obtain ⟨A7, c7, rfl, hs7⟩ := hr6
        obtain rfl := sureInt _ _ _ hu10
        refine T.pure (.tuple #[.agg (List.toArray ((.slice A7 r7.1.run.length c7) :: (DA16.cells r7.1.roles ++ (DA16.cells r7.1.fed)))), .int .i64 r7.2]) (by kernel_rfl) (fun _ => by kernel_rfl) ?_
        refine T.pure (.agg (List.toArray ((.slice A7 r7.1.run.length c7) :: (DA16.cells r7.1.roles ++ (DA16.cells r7.1.fed))))) (by kernel_rfl) (fun _ => by kernel_rfl) ?_
        refine T.pure (.int .i64 r7.2) (by kernel_rfl) (fun _ => by kernel_rfl) ?_
        refine T.step (W1.new 36 ((.slice none 0 0) :: (DA16.cells (DA16.mk 0 0 0 0 0 0 0 0 0 0 0 0 0 0 0 0) ++ (DA16.cells (DA16.mk 0 0 0 0 0 0 0 0 0 0 0 0 0 0 0 0)))) (fun b => .pointer (some ⟨b, 0, none⟩)) (by kernel_rfl) (fun _ => by kernel_rfl) (fun b5 => ?_))
        refine T.step (W1.store 0 ((.slice A7 r7.1.run.length c7) :: (DA16.cells r7.1.roles ++ (DA16.cells r7.1.fed))) [box b5 36 ((.slice A7 r7.1.run.length c7) :: (DA16.cells r7.1.roles ++ (DA16.cells r7.1.fed))), box b4 36 ((.slice A6 r6.1.run.length c6) :: (DA16.cells r6.1.roles ++ (DA16.cells r6.1.fed))), box b2 36 ((.slice A5 r4.1.run.length c5) :: (DA16.cells r4.1.roles ++ (DA16.cells r4.1.fed))), box b1 36 ((.slice A1 p0.run.length c1) :: (DA16.cells p0.roles ++ (DA16.cells p0.fed)))] (by rfl) rfl (by kernel_rfl) (fun w' hw => exec_store (vs := ((.slice A7 r7.1.run.length c7) :: (DA16.cells r7.1.roles ++ (DA16.cells r7.1.fed)))) rfl rfl rfl rfl (by kernel_rfl) (one_of rfl) (Nat.le_of_ble_eq_true (by rfl)) rfl hw) ?_)
        refine T.pure (.int .i64 r7.2) (by kernel_rfl) (fun _ => by kernel_rfl) ?_
        refine T.nil ?_
        obtain ⟨z1, hX1, hF⟩ := Option.bind_eq_some_iff.1 hF
        refine T.cut (fun a w' => ∃ (V8 : View), View.le V7 V8 ∧ Fr 75 [(4, .bool z1)] a ∧ Hp w V8 [] w') ?_ ?_
        ·
          refine T.region ?_
          refine T.pure (.int .i64 r6.2) (by kernel_rfl) (fun _ => by kernel_rfl) ?_
          refine T.pure (.bool (r6.2 == 0)) (by kernel_rfl) (fun _ => by kernel_rfl) ?_
          refine T.pure (.bool (r6.2 == 0)) (by kernel_rfl) (fun _ => by kernel_rfl) ?_
          cases hg2 : (r6.2 == 0)
          ·
            skip
            rw [hg2, cond_false] at hX1
            refine T.pass (by kernel_rfl) (by kernel_rfl) ?_
            refine T.pass (by kernel_rfl) (by kernel_rfl) ?_
            refine T.pure (.bool false) (by kernel_rfl) (fun _ => by kernel_rfl) ?_
            refine T.pure (.bool false) (by kernel_rfl) (fun _ => by kernel_rfl) ?_
            refine T.pass (by kernel_rfl) (by kernel_rfl) ?_
            refine T.pass (by kernel_rfl) (by kernel_rfl) ?_
            refine T.pass (by kernel_rfl) (by kernel_rfl) ?_
            refine T.pure (.bool false) (by kernel_rfl) (fun _ => by kernel_rfl) ?_
            refine T.pure (.bool false) (by kernel_rfl) (fun _ => by kernel_rfl) ?_
            refine T.pass (by kernel_rfl) (by kernel_rfl) ?_
            refine T.pass (by kernel_rfl) (by kernel_rfl) ?_
            refine T.pass (by kernel_rfl) (by kernel_rfl) ?_
            refine T.pass (by kernel_rfl) (by kernel_rfl) ?_
            refine T.pass (by kernel_rfl) (by kernel_rfl) ?_
            refine T.pure (.bool false) (by kernel_rfl) (fun _ => by kernel_rfl) ?_
            refine T.pure (.bool false) (by kernel_rfl) (fun _ => by kernel_rfl) ?_
            refine T.pass (by kernel_rfl) (by kernel_rfl) ?_
            refine T.pass (by kernel_rfl) (by kernel_rfl) ?_
            refine T.pass (by kernel_rfl) (by kernel_rfl) ?_
            refine T.pure (.bool false) (by kernel_rfl) (fun _ => by kernel_rfl) ?_
            refine T.pure (.bool false) (by kernel_rfl) (fun _ => by kernel_rfl) ?_
            refine T.nil ?_
            cases hX1
            exact fun a w' hf hh => Exists.intro V7 (And.intro (View.le_refl _) (And.intro ((Fr.nil hf).pick hf 4 rfl) (hh.sub (.cons _ (.cons _ (.cons _ (.cons _ List.Sublist.slnil)))))))
          ·
            skip
            rw [hg2, cond_true] at hX1
            refine T.pure (.int .i64 r7.2) (by kernel_rfl) (fun _ => by kernel_rfl) ?_
            refine T.pure (.bool (r7.2 == 10)) (by kernel_rfl) (fun _ => by kernel_rfl) ?_
            refine T.pure (.bool (r7.2 == 10)) (by kernel_rfl) (fun _ => by kernel_rfl) ?_
            refine T.pure (.bool (r7.2 == 10)) (by kernel_rfl) (fun _ => by kernel_rfl) ?_
            cases hg3 : (r7.2 == 10)
            ·
              skip
              rw [hg3, cond_false] at hX1
              refine T.pass (by kernel_rfl) (by kernel_rfl) ?_
              refine T.pass (by kernel_rfl) (by kernel_rfl) ?_
              refine T.pass (by kernel_rfl) (by kernel_rfl) ?_
              refine T.pure (.bool false) (by kernel_rfl) (fun _ => by kernel_rfl) ?_
              refine T.pure (.bool false) (by kernel_rfl) (fun _ => by kernel_rfl) ?_
              refine T.pass (by kernel_rfl) (by kernel_rfl) ?_
              refine T.pass (by kernel_rfl) (by kernel_rfl) ?_
              refine T.pass (by kernel_rfl) (by kernel_rfl) ?_
              refine T.pass (by kernel_rfl) (by kernel_rfl) ?_
              refine T.pass (by kernel_rfl) (by kernel_rfl) ?_
              refine T.pure (.bool false) (by kernel_rfl) (fun _ => by kernel_rfl) ?_
              refine T.pure (.bool false) (by kernel_rfl) (fun _ => by kernel_rfl) ?_
              refine T.pass (by kernel_rfl) (by kernel_rfl) ?_
              refine T.pass (by kernel_rfl) (by kernel_rfl) ?_
              refine T.pass (by kernel_rfl) (by kernel_rfl) ?_
              refine T.pure (.bool false) (by kernel_rfl) (fun _ => by kernel_rfl) ?_
              refine T.pure (.bool false) (by kernel_rfl) (fun _ => by kernel_rfl) ?_
              refine T.nil ?_
              cases hX1
              exact fun a w' hf hh => Exists.intro V7 (And.intro (View.le_refl _) (And.intro ((Fr.nil hf).pick hf 4 rfl) (hh.sub (.cons _ (.cons _ (.cons _ (.cons _ List.Sublist.slnil)))))))
            ·
              skip
              rw [hg3, cond_true] at hX1
              refine T.look (.agg (List.toArray ((.slice A6 r6.1.run.length c6) :: (DA16.cells r6.1.roles ++ (DA16.cells r6.1.fed))))) (by kernel_rfl) (fun w' hh => exec_loadN (cs := ((.slice A6 r6.1.run.length c6) :: (DA16.cells r6.1.roles ++ (DA16.cells r6.1.fed)))) rfl rfl (by kernel_rfl) (by kernel_rfl) (fun j u hj => (hh.box_at (i := 1) (cs := ((.slice A6 r6.1.run.length c6) :: (DA16.cells r6.1.roles ++ (DA16.cells r6.1.fed)))) (by rfl) 0 j).trans (seg_at (n := 33) (by rfl) hj))) ?_
              refine T.look (.agg (List.toArray ((.slice A1 p0.run.length c1) :: (DA16.cells p0.roles ++ (DA16.cells p0.fed))))) (by kernel_rfl) (fun w' hh => exec_loadN (cs := ((.slice A1 p0.run.length c1) :: (DA16.cells p0.roles ++ (DA16.cells p0.fed)))) rfl rfl (by kernel_rfl) (by kernel_rfl) (fun j u hj => (hh.box_at (i := 3) (cs := ((.slice A1 p0.run.length c1) :: (DA16.cells p0.roles ++ (DA16.cells p0.fed)))) (by rfl) 0 j).trans (seg_at (n := 33) (by rfl) hj))) ?_
              obtain ⟨r8, hb8, hX1⟩ := Option.bind_eq_some_iff.1 hX1
              refine T.step (W1.call (vSc eBool) r8 23 #[.agg (List.toArray ((.slice A6 r6.1.run.length c6) :: (DA16.cells r6.1.roles ++ (DA16.cells r6.1.fed)))), .agg (List.toArray ((.slice A1 p0.run.length c1) :: (DA16.cells p0.roles ++ (DA16.cells p0.fed))))] (by kernel_rfl) (fun _ => by kernel_rfl) (fun w' hh => annalref_SameBook_l F r6.1 p0 r8 hb8 w' A6 c6 (SlOk.mono (SlOk.mono hs6 (View.le_trans (made_le _ _) hV7)) hh.view) A1 c1 (SlOk.mono (SlOk.mono hs1 (View.le_trans (View.le_trans (View.le_trans (View.le_trans (View.le_trans hV1 hV2) hV3) hV4) hV6) hV7)) hh.view)) ?_)
              intro u V9 hV9 hu
              obtain rfl := sureBool _ _ _ hu
              refine T.pure (.bool r8) (by kernel_rfl) (fun _ => by kernel_rfl) ?_
              refine T.pure (.bool r8) (by kernel_rfl) (fun _ => by kernel_rfl) ?_
              cases hg4 : r8
              ·
                skip
                rw [hg4, cond_false] at hX1
                refine T.pass (by kernel_rfl) (by kernel_rfl) ?_
                refine T.pass (by kernel_rfl) (by kernel_rfl) ?_
                refine T.pass (by kernel_rfl) (by kernel_rfl) ?_
                refine T.pass (by kernel_rfl) (by kernel_rfl) ?_
                refine T.pass (by kernel_rfl) (by kernel_rfl) ?_
                refine T.pure (.bool false) (by kernel_rfl) (fun _ => by kernel_rfl) ?_
                refine T.pure (.bool false) (by kernel_rfl) (fun _ => by kernel_rfl) ?_
                refine T.pass (by kernel_rfl) (by kernel_rfl) ?_
                refine T.pass (by kernel_rfl) (by kernel_rfl) ?_
                refine T.pass (by kernel_rfl) (by kernel_rfl) ?_
                refine T.pure (.bool false) (by kernel_rfl) (fun _ => by kernel_rfl) ?_
                refine T.pure (.bool false) (by kernel_rfl) (fun _ => by kernel_rfl) ?_
                refine T.nil ?_
                cases hX1
                exact fun a w' hf hh => Exists.intro V9 (And.intro hV9 (And.intro ((Fr.nil hf).pick hf 4 rfl) (hh.sub (.cons _ (.cons _ (.cons _ (.cons _ List.Sublist.slnil)))))))
              ·
                skip
                rw [hg4, cond_true] at hX1
                refine T.pure (.int .i64 p1) (by kernel_rfl) (fun _ => by kernel_rfl) ?_
                refine T.pure (.pointer (some ⟨b2, 1, none⟩)) (by kernel_rfl) (fun _ => by kernel_rfl) ?_
                obtain ⟨e1, hb9, hX1⟩ := Option.bind_eq_some_iff.1 hX1
                obtain ⟨hi1, hi2, hi3⟩ := idx_some hb9
                refine T.look (.pointer (some ((⟨b2, 1, none⟩ : Addr).add (p1.toNat * 1)))) (by kernel_rfl) (fun w' hh => exec_arrAddr (e := 3) rfl rfl rfl (by kernel_rfl) (by kernel_rfl) hi1 hi2) ?_
                refine T.look (.int .i64 e1) (by kernel_rfl) (fun w' hh => exec_load1 rfl rfl (by kernel_rfl) (hh.arr_at (i := 2) (by rfl) 1 r4.1.roles rfl hi3)) ?_
                refine T.pure (.bool (e1 == 2)) (by kernel_rfl) (fun _ => by kernel_rfl) ?_
                refine T.pure (.bool (e1 == 2)) (by kernel_rfl) (fun _ => by kernel_rfl) ?_
                refine T.pure (.bool (e1 == 2)) (by kernel_rfl) (fun _ => by kernel_rfl) ?_
                cases hg5 : (e1 == 2)
                ·
                  skip
                  rw [hg5, cond_false] at hX1
                  refine T.pass (by kernel_rfl) (by kernel_rfl) ?_
                  refine T.pass (by kernel_rfl) (by kernel_rfl) ?_
                  refine T.pass (by kernel_rfl) (by kernel_rfl) ?_
                  refine T.pure (.bool false) (by kernel_rfl) (fun _ => by kernel_rfl) ?_
                  refine T.pure (.bool false) (by kernel_rfl) (fun _ => by kernel_rfl) ?_
                  refine T.nil ?_
                  cases hX1
                  exact fun a w' hf hh => Exists.intro V9 (And.intro hV9 (And.intro ((Fr.nil hf).pick hf 4 rfl) (hh.sub (.cons _ (.cons _ (.cons _ (.cons _ List.Sublist.slnil)))))))
                ·
                  skip
                  rw [hg5, cond_true] at hX1
                  refine T.look (.agg (List.toArray ((.slice A5 r4.1.run.length c5) :: (DA16.cells r4.1.roles ++ (DA16.cells r4.1.fed))))) (by kernel_rfl) (fun w' hh => exec_loadN (cs := ((.slice A5 r4.1.run.length c5) :: (DA16.cells r4.1.roles ++ (DA16.cells r4.1.fed)))) rfl rfl (by kernel_rfl) (by kernel_rfl) (fun j u hj => (hh.box_at (i := 2) (cs := ((.slice A5 r4.1.run.length c5) :: (DA16.cells r4.1.roles ++ (DA16.cells r4.1.fed)))) (by rfl) 0 j).trans (seg_at (n := 33) (by rfl) hj))) ?_
                  obtain ⟨r9, hb10, hX1⟩ := Option.bind_eq_some_iff.1 hX1
                  refine T.step (W1.call (vSc eInt) r9 25 #[.agg (List.toArray ((.slice A5 r4.1.run.length c5) :: (DA16.cells r4.1.roles ++ (DA16.cells r4.1.fed))))] (by kernel_rfl) (fun _ => by kernel_rfl) (fun w' hh => realm_Check_l F r4.1 r9 hb10 w' A5 c5 (SlOk.mono (SlOk.mono hs5 (View.le_trans (made_le _ _) (View.le_trans (View.le_trans hV6 hV7) hV9))) hh.view)) ?_)
                  intro u V10 hV10 hu
                  obtain rfl := sureInt _ _ _ hu
                  refine T.pure (.bool (r9 == 0)) (by kernel_rfl) (fun _ => by kernel_rfl) ?_
                  refine T.pure (.bool (r9 == 0)) (by kernel_rfl) (fun _ => by kernel_rfl) ?_
                  refine T.pure (.bool (r9 == 0)) (by kernel_rfl) (fun _ => by kernel_rfl) ?_
                  refine T.nil ?_
                  cases hX1
                  exact fun a w' hf hh => Exists.intro V10 (And.intro (View.le_trans hV9 hV10) (And.intro ((Fr.nil hf).pick hf 4 rfl) (hh.sub (.cons _ (.cons _ (.cons _ (.cons _ List.Sublist.slnil)))))))
        ·
          rintro a w' ⟨V8, hV8, hf, hh⟩
          refine (?_ : T 75 w V8 [] [(4, .bool z1)] _) a w' hf hh
          clear hf hh
          cases hF
          refine T.ret rfl ?_
          exact T.ret1 rfl (ResIs.tmp rfl) fun w' hh => ⟨_, rfl, hh.below, (show _ from rfl)⟩

end Go.Proofs.Ytomgholekojenaa
