/- The Go functions of group WSnapNames compute the pure functions of that group: written by walkgen.py. Condition of each: the pure function yields a result. -/
import Derived.Test.YtjefpcemcckocaaSnapL
import Derived.Test.YtjefpcemcckocaaEqsL
import Derived.Test.YtjefpcemcckocaaWSnapNamesF
import Derived.Test.YtjefpcemcckocaaEqL
namespace Go.Proofs.Ytjefpcemcckocaa
set_option linter.unusedVariables false

set_option maxRecDepth 100000 in
set_option maxHeartbeats 4000000 in
theorem annalkeep_SnapNames_l (F : Nat) (p0 : (List DSnap)) (p1 : ByteArray) (p2 : ByteArray) (p3 : Int) (p4 : Int) (r : Bool) (hF : annalkeep_SnapNames F p0 p1 p2 p3 p4 = some r) (w : World) (A1 : Option Addr) (c1 : Nat) (hs1 : SlOk (vw w) eSnap A1 c1 p0) :
    Calls Try.prog 4 #[.slice A1 p0.length c1, .string p1, .string p2, .int .i64 p3, .int .i64 p4] w (Post (vSc eBool) r w) := by
 unfold annalkeep_SnapNames at hF
 refine T.start (l := [.slice A1 p0.length c1, .string p1, .string p2, .int .i64 p3, .int .i64 p4]) Try.func4 rfl rfl rfl ?_
 refine T.seq ?_
 refine T.region ?_
 refine T.pure (.bool false) (by kernel_rfl) (fun _ => by kernel_rfl) ?_
 refine T.nil ?_
 refine T.seq ?_
 refine T.seq ?_
 refine T.region ?_
 obtain ⟨r1, hb1, hF⟩ := Option.bind_eq_some_iff.1 hF
 refine T.step (W1.call (vT2 (vSc (eList eSnap)) (vSc eInt)) r1 17 #[.slice none 0 0, .string (ByteArray.mk #[97]), .int .i64 5] (by kernel_rfl) (fun _ => by kernel_rfl) (fun w' hh => snap_Add_l F ([] : List DSnap) (ByteArray.mk #[97]) 5 r1 hb1 w' none 0 (SlOk.nil _ _)) ?_)
 intro u V1 hV1 hu
 obtain ⟨u1, u2, rfl, hu1, hu2⟩ := vT2_elim hu
 obtain ⟨A2, c2, rfl, hs2⟩ := vlist_elim hu1
 obtain rfl := sureInt _ _ _ hu2
 refine T.pure (.tuple #[.slice A2 r1.1.length c2, .int .i64 r1.2]) (by kernel_rfl) (fun _ => by kernel_rfl) ?_
 refine T.pure (.slice A2 r1.1.length c2) (by kernel_rfl) (fun _ => by kernel_rfl) ?_
 refine T.pure (.int .i64 r1.2) (by kernel_rfl) (fun _ => by kernel_rfl) ?_
 refine T.pure (.slice A2 r1.1.length c2) (by kernel_rfl) (fun _ => by kernel_rfl) ?_
 refine T.pure (.int .i64 r1.2) (by kernel_rfl) (fun _ => by kernel_rfl) ?_
 refine T.nil ?_
 obtain ⟨z1, hX1, hF⟩ := Option.bind_eq_some_iff.1 hF
 refine T.cut (fun a w' => ∃ (V2 : View), View.le V1 V2 ∧ Fr 125 [(0, .slice A1 p0.length c1), (1, .string p1), (2, .string p2), (3, .int .i64 p3), (4, .int .i64 p4), (34, .bool z1)] a ∧ Hp w V2 [] w') ?_ ?_
 ·
  refine T.region ?_
  refine T.pure (.int .i64 r1.2) (by kernel_rfl) (fun _ => by kernel_rfl) ?_
  refine T.pure (.bool (r1.2 != 0)) (by kernel_rfl) (fun _ => by kernel_rfl) ?_
  refine T.pure (.bool (r1.2 != 0)) (by kernel_rfl) (fun _ => by kernel_rfl) ?_
  cases hg1 : (r1.2 != 0)
  ·
   skip
   rw [hg1, cond_false] at hX1
   refine T.pure (.slice A2 r1.1.length c2) (by kernel_rfl) (fun _ => by kernel_rfl) ?_
   refine T.pure (.agg #[.string (ByteArray.mk #[97]), .int .i64 5]) (by kernel_rfl) (fun _ => by kernel_rfl) ?_
   refine T.step (W1.new 47 [.string (ByteArray.mk #[97]), .int .i64 5] (fun b => .slice (some ⟨b, 0, none⟩) 1 1) (by kernel_rfl) (fun _ => by kernel_rfl) (fun b1 => ?_))
   obtain ⟨r2, hb2, hX1⟩ := Option.bind_eq_some_iff.1 hX1
   refine T.step (W1.call (vSc eBool) r2 18 #[.slice A2 r1.1.length c2, .slice (some ⟨b1, 0, none⟩) 1 1] (by kernel_rfl) (fun _ => by kernel_rfl) (fun w' hh => slices_Equal_Snap_l F r1.1 [(DSnap.mk (ByteArray.mk #[97]) 5)] r2 hb2 w' A2 c2 (SlOk.mono (SlOk.mono hs2 (View.le_trans (made_le _ _) (View.le_refl _))) hh.view) (some ⟨b1, 0, none⟩) 1 (slok_lit (E := eSnap) (f := DSnap.cells) [(DSnap.mk (ByteArray.mk #[97]) 5)] (fun _ _ => rfl) (Nat.le_of_ble_eq_true (by rfl)) (fun j => hh.cellBox (i := 0) (by rfl) j))) ?_)
   intro u V3 hV3 hu
   obtain rfl := sureBool _ _ _ hu
   refine T.pure (.bool (!r2)) (by kernel_rfl) (fun _ => by kernel_rfl) ?_
   refine T.pure (.bool (!r2)) (by kernel_rfl) (fun _ => by kernel_rfl) ?_
   refine T.nil ?_
   cases hX1
   exact fun a w' hf hh => Exists.intro V3 (And.intro hV3 (And.intro (((((((Fr.nil hf).pick hf 34 rfl).pick hf 4 rfl).pick hf 3 rfl).pick hf 2 rfl).pick hf 1 rfl).pick hf 0 rfl) (hh.sub (.cons _ List.Sublist.slnil))))
  ·
   skip
   rw [hg1, cond_true] at hX1
   refine T.pass (by kernel_rfl) (by kernel_rfl) ?_
   refine T.pass (by kernel_rfl) (by kernel_rfl) ?_
   refine T.pass (by kernel_rfl) (by kernel_rfl) ?_
   refine T.pass (by kernel_rfl) (by kernel_rfl) ?_
   refine T.pass (by kernel_rfl) (by kernel_rfl) ?_
   refine T.pure (.bool true) (by kernel_rfl) (fun _ => by kernel_rfl) ?_
   refine T.nil ?_
   cases hX1
   exact fun a w' hf hh => Exists.intro V1 (And.intro (View.le_refl _) (And.intro (((((((Fr.nil hf).pick hf 34 rfl).pick hf 4 rfl).pick hf 3 rfl).pick hf 2 rfl).pick hf 1 rfl).pick hf 0 rfl) (hh.sub List.Sublist.slnil)))
 ·
  rintro a w' ⟨V2, hV2, hf, hh⟩
  refine (?_ : T 125 w V2 [] [(0, .slice A1 p0.length c1), (1, .string p1), (2, .string p2), (3, .int .i64 p3), (4, .int .i64 p4), (34, .bool z1)] _) a w' hf hh
  clear hf hh
  refine T.cond z1 (by kernel_rfl) (by kernel_rfl) (fun hc1 => ?_) (fun hc1 => ?_)
  ·
   rw [hc1, cond_true] at hF
   refine T.seq ?_
   refine T.region ?_
   refine T.pure (.bool false) (by kernel_rfl) (fun _ => by kernel_rfl) ?_
   refine T.nil ?_
   cases hF
   refine T.ret rfl ?_
   exact T.ret1 rfl (ResIs.tmp rfl) fun w' hh => ⟨_, rfl, hh.below, (show _ from rfl)⟩
  ·
   rw [hc1, cond_false] at hF
   refine T.skip_code ?_
   refine T.seq ?_
   refine T.region ?_
   refine T.pure (.slice A1 p0.length c1) (by kernel_rfl) (fun _ => by kernel_rfl) ?_
   refine T.pure (.string p1) (by kernel_rfl) (fun _ => by kernel_rfl) ?_
   refine T.pure (.int .i64 p3) (by kernel_rfl) (fun _ => by kernel_rfl) ?_
   obtain ⟨r3, hb3, hF⟩ := Option.bind_eq_some_iff.1 hF
   refine T.step (W1.call (vT2 (vSc (eList eSnap)) (vSc eInt)) r3 17 #[.slice A1 p0.length c1, .string p1, .int .i64 p3] (by kernel_rfl) (fun _ => by kernel_rfl) (fun w' hh => snap_Add_l F p0 p1 p3 r3 hb3 w' A1 c1 (SlOk.mono (SlOk.mono hs1 (View.le_trans hV1 hV2)) hh.view)) ?_)
   intro u V4 hV4 hu
   obtain ⟨u3, u4, rfl, hu3, hu4⟩ := vT2_elim hu
   obtain ⟨A3, c3, rfl, hs3⟩ := vlist_elim hu3
   obtain rfl := sureInt _ _ _ hu4
   refine T.pure (.tuple #[.slice A3 r3.1.length c3, .int .i64 r3.2]) (by kernel_rfl) (fun _ => by kernel_rfl) ?_
   refine T.pure (.slice A3 r3.1.length c3) (by kernel_rfl) (fun _ => by kernel_rfl) ?_
   refine T.pure (.int .i64 r3.2) (by kernel_rfl) (fun _ => by kernel_rfl) ?_
   refine T.pure (.slice A3 r3.1.length c3) (by kernel_rfl) (fun _ => by kernel_rfl) ?_
   refine T.pure (.int .i64 r3.2) (by kernel_rfl) (fun _ => by kernel_rfl) ?_
   refine T.nil ?_
   refine T.seq ?_
   refine T.seq ?_
   refine T.region ?_
   refine T.pure (.int .i64 r3.2) (by kernel_rfl) (fun _ => by kernel_rfl) ?_
   refine T.pure (.bool (r3.2 != 0)) (by kernel_rfl) (fun _ => by kernel_rfl) ?_
   refine T.nil ?_
   refine T.cond (r3.2 != 0) (by kernel_rfl) (by kernel_rfl) (fun hc2 => ?_) (fun hc2 => ?_)
   ·
    rw [hc2, cond_true] at hF
    refine T.seq ?_
    refine T.region ?_
    refine T.pure (.slice A3 r3.1.length c3) (by kernel_rfl) (fun _ => by kernel_rfl) ?_
    refine T.pure (.int .i64 (r3.1.length : Int)) (by kernel_rfl) (fun _ => by kernel_rfl) ?_
    refine T.pure (.bool ((r3.1.length : Int) == 0)) (by kernel_rfl) (fun _ => by kernel_rfl) ?_
    refine T.pure (.bool ((r3.1.length : Int) == 0)) (by kernel_rfl) (fun _ => by kernel_rfl) ?_
    refine T.nil ?_
    cases hF
    refine T.ret rfl ?_
    exact T.ret1 rfl (ResIs.tmp rfl) fun w' hh => ⟨_, rfl, hh.below, (show _ from rfl)⟩
   ·
    rw [hc2, cond_false] at hF
    refine T.skip_code ?_
    refine T.seq ?_
    refine T.region ?_
    refine T.pure (.slice A3 r3.1.length c3) (by kernel_rfl) (fun _ => by kernel_rfl) ?_
    refine T.pure (.string p1) (by kernel_rfl) (fun _ => by kernel_rfl) ?_
    obtain ⟨r4, hb4, hF⟩ := Option.bind_eq_some_iff.1 hF
    refine T.step (W1.call (vT2 (vSc eInt) (vSc eInt)) r4 19 #[.slice A3 r3.1.length c3, .string p1] (by kernel_rfl) (fun _ => by kernel_rfl) (fun w' hh => snap_Find_l F r3.1 p1 r4 hb4 w' A3 c3 (SlOk.mono (SlOk.mono hs3 (View.le_trans (made_le _ _) (View.le_refl _))) hh.view)) ?_)
    intro u V5 hV5 hu
    obtain rfl := (Sure.t2 sureInt sureInt) _ _ _ hu
    refine T.pure (.tuple #[.int .i64 r4.1, .int .i64 r4.2]) (by kernel_rfl) (fun _ => by kernel_rfl) ?_
    refine T.pure (.int .i64 r4.1) (by kernel_rfl) (fun _ => by kernel_rfl) ?_
    refine T.pure (.int .i64 r4.2) (by kernel_rfl) (fun _ => by kernel_rfl) ?_
    refine T.pure (.int .i64 r4.1) (by kernel_rfl) (fun _ => by kernel_rfl) ?_
    refine T.pure (.int .i64 r4.2) (by kernel_rfl) (fun _ => by kernel_rfl) ?_
    refine T.nil ?_
    refine T.seq ?_
    refine T.region ?_
    refine T.pure (.slice A3 r3.1.length c3) (by kernel_rfl) (fun _ => by kernel_rfl) ?_
    refine T.pure (.string p1) (by kernel_rfl) (fun _ => by kernel_rfl) ?_
    obtain ⟨r5, hb5, hF⟩ := Option.bind_eq_some_iff.1 hF
    refine T.step (W1.call (vT2 (vSc (eList eSnap)) (vSc eInt)) r5 20 #[.slice A3 r3.1.length c3, .string p1] (by kernel_rfl) (fun _ => by kernel_rfl) (fun w' hh => snap_Drop_l F r3.1 p1 r5 hb5 w' A3 c3 (SlOk.mono (SlOk.mono hs3 (View.le_trans (made_le _ _) hV5)) hh.view)) ?_)
    intro u V6 hV6 hu
    obtain ⟨u5, u6, rfl, hu5, hu6⟩ := vT2_elim hu
    obtain ⟨A4, c4, rfl, hs4⟩ := vlist_elim hu5
    obtain rfl := sureInt _ _ _ hu6
    refine T.pure (.tuple #[.slice A4 r5.1.length c4, .int .i64 r5.2]) (by kernel_rfl) (fun _ => by kernel_rfl) ?_
    refine T.pure (.slice A4 r5.1.length c4) (by kernel_rfl) (fun _ => by kernel_rfl) ?_
    refine T.pure (.int .i64 r5.2) (by kernel_rfl) (fun _ => by kernel_rfl) ?_
    refine T.pure (.slice A4 r5.1.length c4) (by kernel_rfl) (fun _ => by kernel_rfl) ?_
    refine T.pure (.int .i64 r5.2) (by kernel_rfl) (fun _ => by kernel_rfl) ?_
    refine T.nil ?_
    refine T.seq ?_
    refine T.region ?_
    refine T.pure (.slice A4 r5.1.length c4) (by kernel_rfl) (fun _ => by kernel_rfl) ?_
    refine T.pure (.string p1) (by kernel_rfl) (fun _ => by kernel_rfl) ?_
    obtain ⟨r6, hb6, hF⟩ := Option.bind_eq_some_iff.1 hF
    refine T.step (W1.call (vT2 (vSc eInt) (vSc eInt)) r6 19 #[.slice A4 r5.1.length c4, .string p1] (by kernel_rfl) (fun _ => by kernel_rfl) (fun w' hh => snap_Find_l F r5.1 p1 r6 hb6 w' A4 c4 (SlOk.mono (SlOk.mono hs4 (View.le_trans (made_le _ _) (View.le_refl _))) hh.view)) ?_)
    intro u V7 hV7 hu
    obtain rfl := (Sure.t2 sureInt sureInt) _ _ _ hu
    refine T.pure (.tuple #[.int .i64 r6.1, .int .i64 r6.2]) (by kernel_rfl) (fun _ => by kernel_rfl) ?_
    refine T.pure (.int .i64 r6.1) (by kernel_rfl) (fun _ => by kernel_rfl) ?_
    refine T.pure (.int .i64 r6.2) (by kernel_rfl) (fun _ => by kernel_rfl) ?_
    refine T.pure (.int .i64 r6.1) (by kernel_rfl) (fun _ => by kernel_rfl) ?_
    refine T.pure (.int .i64 r6.2) (by kernel_rfl) (fun _ => by kernel_rfl) ?_
    refine T.nil ?_
    refine T.seq ?_
    obtain ⟨z2, hX2, hF⟩ := Option.bind_eq_some_iff.1 hF
    refine T.cut (fun a w' => ∃ (V8 : View), View.le V7 V8 ∧ Fr 125 [(0, .slice A1 p0.length c1), (1, .string p1), (2, .string p2), (3, .int .i64 p3), (4, .int .i64 p4), (13, .slice A3 r3.1.length c3), (90, .bool z2)] a ∧ Hp w V8 [] w') ?_ ?_
    ·
     refine T.region ?_
     refine T.pure (.int .i64 r4.2) (by kernel_rfl) (fun _ => by kernel_rfl) ?_
     refine T.pure (.bool (r4.2 != 0)) (by kernel_rfl) (fun _ => by kernel_rfl) ?_
     refine T.pure (.bool (r4.2 != 0)) (by kernel_rfl) (fun _ => by kernel_rfl) ?_
     cases hg2 : (r4.2 != 0)
     ·
      skip
      rw [hg2, cond_false] at hX2
      refine T.pure (.int .i64 r5.2) (by kernel_rfl) (fun _ => by kernel_rfl) ?_
      refine T.pure (.bool (r5.2 != 0)) (by kernel_rfl) (fun _ => by kernel_rfl) ?_
      refine T.pure (.bool (r5.2 != 0)) (by kernel_rfl) (fun _ => by kernel_rfl) ?_
      refine T.pure (.bool (r5.2 != 0)) (by kernel_rfl) (fun _ => by kernel_rfl) ?_
      cases hg3 : (r5.2 != 0)
      ·
       skip
       rw [hg3, cond_false] at hX2
       refine T.pure (.int .i64 r4.1) (by kernel_rfl) (fun _ => by kernel_rfl) ?_
       refine T.pure (.int .i64 p3) (by kernel_rfl) (fun _ => by kernel_rfl) ?_
       refine T.pure (.bool (r4.1 != p3)) (by kernel_rfl) (fun _ => by kernel_rfl) ?_
       refine T.pure (.bool (r4.1 != p3)) (by kernel_rfl) (fun _ => by kernel_rfl) ?_
       refine T.pure (.bool (r4.1 != p3)) (by kernel_rfl) (fun _ => by kernel_rfl) ?_
       cases hg4 : (r4.1 != p3)
       ·
        skip
        rw [hg4, cond_false] at hX2
        refine T.pure (.int .i64 r6.2) (by kernel_rfl) (fun _ => by kernel_rfl) ?_
        refine T.pure (.bool (r6.2 != 4)) (by kernel_rfl) (fun _ => by kernel_rfl) ?_
        refine T.pure (.bool (r6.2 != 4)) (by kernel_rfl) (fun _ => by kernel_rfl) ?_
        refine T.pure (.bool (r6.2 != 4)) (by kernel_rfl) (fun _ => by kernel_rfl) ?_
        cases hg5 : (r6.2 != 4)
        ·
         skip
         rw [hg5, cond_false] at hX2
         refine T.pure (.slice A4 r5.1.length c4) (by kernel_rfl) (fun _ => by kernel_rfl) ?_
         refine T.pure (.slice A1 p0.length c1) (by kernel_rfl) (fun _ => by kernel_rfl) ?_
         obtain ⟨r7, hb7, hX2⟩ := Option.bind_eq_some_iff.1 hX2
         refine T.step (W1.call (vSc eBool) r7 18 #[.slice A4 r5.1.length c4, .slice A1 p0.length c1] (by kernel_rfl) (fun _ => by kernel_rfl) (fun w' hh => slices_Equal_Snap_l F r5.1 p0 r7 hb7 w' A4 c4 (SlOk.mono (SlOk.mono hs4 (View.le_trans (made_le _ _) hV7)) hh.view) A1 c1 (SlOk.mono (SlOk.mono hs1 (View.le_trans (View.le_trans (View.le_trans (View.le_trans (View.le_trans hV1 hV2) hV4) hV5) hV6) hV7)) hh.view)) ?_)
         intro u V9 hV9 hu
         obtain rfl := sureBool _ _ _ hu
         refine T.pure (.bool (!r7)) (by kernel_rfl) (fun _ => by kernel_rfl) ?_
         refine T.pure (.bool (!r7)) (by kernel_rfl) (fun _ => by kernel_rfl) ?_
         refine T.pure (.bool (!r7)) (by kernel_rfl) (fun _ => by kernel_rfl) ?_
         cases hg6 : (!r7)
         ·
          skip
          rw [hg6, cond_false] at hX2
          refine T.pure (.slice A3 r3.1.length c3) (by kernel_rfl) (fun _ => by kernel_rfl) ?_
          obtain ⟨r8, hb8, hX2⟩ := Option.bind_eq_some_iff.1 hX2
          refine T.step (W1.call (vSc eInt) r8 21 #[.slice A3 r3.1.length c3] (by kernel_rfl) (fun _ => by kernel_rfl) (fun w' hh => snap_Check_l F r3.1 r8 hb8 w' A3 c3 (SlOk.mono (SlOk.mono hs3 (View.le_trans (made_le _ _) (View.le_trans (View.le_trans (View.le_trans hV5 hV6) hV7) hV9))) hh.view)) ?_)
          intro u V10 hV10 hu
          obtain rfl := sureInt _ _ _ hu
          refine T.pure (.bool (r8 != 0)) (by kernel_rfl) (fun _ => by kernel_rfl) ?_
          refine T.pure (.bool (r8 != 0)) (by kernel_rfl) (fun _ => by kernel_rfl) ?_
          refine T.nil ?_
          cases hX2
          exact fun a w' hf hh => Exists.intro V10 (And.intro (View.le_trans hV9 hV10) (And.intro ((((((((Fr.nil hf).pick hf 90 rfl).pick hf 13 rfl).pick hf 4 rfl).pick hf 3 rfl).pick hf 2 rfl).pick hf 1 rfl).pick hf 0 rfl) (hh.sub List.Sublist.slnil)))
         ·
          skip
          rw [hg6, cond_true] at hX2
          refine T.pass (by kernel_rfl) (by kernel_rfl) ?_
          refine T.pass (by kernel_rfl) (by kernel_rfl) ?_
          refine T.pass (by kernel_rfl) (by kernel_rfl) ?_
          refine T.pure (.bool true) (by kernel_rfl) (fun _ => by kernel_rfl) ?_
          refine T.nil ?_
          cases hX2
          exact fun a w' hf hh => Exists.intro V9 (And.intro hV9 (And.intro ((((((((Fr.nil hf).pick hf 90 rfl).pick hf 13 rfl).pick hf 4 rfl).pick hf 3 rfl).pick hf 2 rfl).pick hf 1 rfl).pick hf 0 rfl) (hh.sub List.Sublist.slnil)))
        ·
         skip
         rw [hg5, cond_true] at hX2
         refine T.pass (by kernel_rfl) (by kernel_rfl) ?_
         refine T.pass (by kernel_rfl) (by kernel_rfl) ?_
         refine T.pass (by kernel_rfl) (by kernel_rfl) ?_
         refine T.pass (by kernel_rfl) (by kernel_rfl) ?_
         refine T.pure (.bool true) (by kernel_rfl) (fun _ => by kernel_rfl) ?_
         refine T.pure (.bool true) (by kernel_rfl) (fun _ => by kernel_rfl) ?_
         refine T.pass (by kernel_rfl) (by kernel_rfl) ?_
         refine T.pass (by kernel_rfl) (by kernel_rfl) ?_
         refine T.pass (by kernel_rfl) (by kernel_rfl) ?_
         refine T.pure (.bool true) (by kernel_rfl) (fun _ => by kernel_rfl) ?_
         refine T.nil ?_
         cases hX2
         exact fun a w' hf hh => Exists.intro V7 (And.intro (View.le_refl _) (And.intro ((((((((Fr.nil hf).pick hf 90 rfl).pick hf 13 rfl).pick hf 4 rfl).pick hf 3 rfl).pick hf 2 rfl).pick hf 1 rfl).pick hf 0 rfl) (hh.sub List.Sublist.slnil)))
       ·
        skip
        rw [hg4, cond_true] at hX2
        refine T.pass (by kernel_rfl) (by kernel_rfl) ?_
        refine T.pass (by kernel_rfl) (by kernel_rfl) ?_
        refine T.pure (.bool true) (by kernel_rfl) (fun _ => by kernel_rfl) ?_
        refine T.pure (.bool true) (by kernel_rfl) (fun _ => by kernel_rfl) ?_
        refine T.pass (by kernel_rfl) (by kernel_rfl) ?_
        refine T.pass (by kernel_rfl) (by kernel_rfl) ?_
        refine T.pass (by kernel_rfl) (by kernel_rfl) ?_
        refine T.pass (by kernel_rfl) (by kernel_rfl) ?_
        refine T.pure (.bool true) (by kernel_rfl) (fun _ => by kernel_rfl) ?_
        refine T.pure (.bool true) (by kernel_rfl) (fun _ => by kernel_rfl) ?_
        refine T.pass (by kernel_rfl) (by kernel_rfl) ?_
        refine T.pass (by kernel_rfl) (by kernel_rfl) ?_
        refine T.pass (by kernel_rfl) (by kernel_rfl) ?_
        refine T.pure (.bool true) (by kernel_rfl) (fun _ => by kernel_rfl) ?_
        refine T.nil ?_
        cases hX2
        exact fun a w' hf hh => Exists.intro V7 (And.intro (View.le_refl _) (And.intro ((((((((Fr.nil hf).pick hf 90 rfl).pick hf 13 rfl).pick hf 4 rfl).pick hf 3 rfl).pick hf 2 rfl).pick hf 1 rfl).pick hf 0 rfl) (hh.sub List.Sublist.slnil)))
      ·
       skip
       rw [hg3, cond_true] at hX2
       refine T.pass (by kernel_rfl) (by kernel_rfl) ?_
       refine T.pass (by kernel_rfl) (by kernel_rfl) ?_
       refine T.pass (by kernel_rfl) (by kernel_rfl) ?_
       refine T.pure (.bool true) (by kernel_rfl) (fun _ => by kernel_rfl) ?_
       refine T.pure (.bool true) (by kernel_rfl) (fun _ => by kernel_rfl) ?_
       refine T.pass (by kernel_rfl) (by kernel_rfl) ?_
       refine T.pass (by kernel_rfl) (by kernel_rfl) ?_
       refine T.pure (.bool true) (by kernel_rfl) (fun _ => by kernel_rfl) ?_
       refine T.pure (.bool true) (by kernel_rfl) (fun _ => by kernel_rfl) ?_
       refine T.pass (by kernel_rfl) (by kernel_rfl) ?_
       refine T.pass (by kernel_rfl) (by kernel_rfl) ?_
       refine T.pass (by kernel_rfl) (by kernel_rfl) ?_
       refine T.pass (by kernel_rfl) (by kernel_rfl) ?_
       refine T.pure (.bool true) (by kernel_rfl) (fun _ => by kernel_rfl) ?_
       refine T.pure (.bool true) (by kernel_rfl) (fun _ => by kernel_rfl) ?_
       refine T.pass (by kernel_rfl) (by kernel_rfl) ?_
       refine T.pass (by kernel_rfl) (by kernel_rfl) ?_
       refine T.pass (by kernel_rfl) (by kernel_rfl) ?_
       refine T.pure (.bool true) (by kernel_rfl) (fun _ => by kernel_rfl) ?_
       refine T.nil ?_
       cases hX2
       exact fun a w' hf hh => Exists.intro V7 (And.intro (View.le_refl _) (And.intro ((((((((Fr.nil hf).pick hf 90 rfl).pick hf 13 rfl).pick hf 4 rfl).pick hf 3 rfl).pick hf 2 rfl).pick hf 1 rfl).pick hf 0 rfl) (hh.sub List.Sublist.slnil)))
     ·
      skip
      rw [hg2, cond_true] at hX2
      refine T.pass (by kernel_rfl) (by kernel_rfl) ?_
      refine T.pass (by kernel_rfl) (by kernel_rfl) ?_
      refine T.pure (.bool true) (by kernel_rfl) (fun _ => by kernel_rfl) ?_
      refine T.pure (.bool true) (by kernel_rfl) (fun _ => by kernel_rfl) ?_
      refine T.pass (by kernel_rfl) (by kernel_rfl) ?_
      refine T.pass (by kernel_rfl) (by kernel_rfl) ?_
      refine T.pass (by kernel_rfl) (by kernel_rfl) ?_
      refine T.pure (.bool true) (by kernel_rfl) (fun _ => by kernel_rfl) ?_
      refine T.pure (.bool true) (by kernel_rfl) (fun _ => by kernel_rfl) ?_
      refine T.pass (by kernel_rfl) (by kernel_rfl) ?_
      refine T.pass (by kernel_rfl) (by kernel_rfl) ?_
      refine T.pure (.bool true) (by kernel_rfl) (fun _ => by kernel_rfl) ?_
      refine T.pure (.bool true) (by kernel_rfl) (fun _ => by kernel_rfl) ?_
      refine T.pass (by kernel_rfl) (by kernel_rfl) ?_
      refine T.pass (by kernel_rfl) (by kernel_rfl) ?_
      refine T.pass (by kernel_rfl) (by kernel_rfl) ?_
      refine T.pass (by kernel_rfl) (by kernel_rfl) ?_
      refine T.pure (.bool true) (by kernel_rfl) (fun _ => by kernel_rfl) ?_
      refine T.pure (.bool true) (by kernel_rfl) (fun _ => by kernel_rfl) ?_
      refine T.pass (by kernel_rfl) (by kernel_rfl) ?_
      refine T.pass (by kernel_rfl) (by kernel_rfl) ?_
      refine T.pass (by kernel_rfl) (by kernel_rfl) ?_
      refine T.pure (.bool true) (by kernel_rfl) (fun _ => by kernel_rfl) ?_
      refine T.nil ?_
      cases hX2
      exact fun a w' hf hh => Exists.intro V7 (And.intro (View.le_refl _) (And.intro ((((((((Fr.nil hf).pick hf 90 rfl).pick hf 13 rfl).pick hf 4 rfl).pick hf 3 rfl).pick hf 2 rfl).pick hf 1 rfl).pick hf 0 rfl) (hh.sub List.Sublist.slnil)))
    ·
     rintro a w' ⟨V8, hV8, hf, hh⟩
     refine (?_ : T 125 w V8 [] [(0, .slice A1 p0.length c1), (1, .string p1), (2, .string p2), (3, .int .i64 p3), (4, .int .i64 p4), (13, .slice A3 r3.1.length c3), (90, .bool z2)] _) a w' hf hh
     clear hf hh
     refine T.cond z2 (by kernel_rfl) (by kernel_rfl) (fun hc3 => ?_) (fun hc3 => ?_)
     ·
      rw [hc3, cond_true] at hF
      refine T.seq ?_
      refine T.region ?_
      refine T.pure (.bool false) (by kernel_rfl) (fun _ => by kernel_rfl) ?_
      refine T.nil ?_
      cases hF
      refine T.ret rfl ?_
      exact T.ret1 rfl (ResIs.tmp rfl) fun w' hh => ⟨_, rfl, hh.below, (show _ from rfl)⟩
     ·
      rw [hc3, cond_false] at hF
      refine T.skip_code ?_
      refine T.seq ?_
      refine T.region ?_
      refine T.pure (.slice A3 r3.1.length c3) (by kernel_rfl) (fun _ => by kernel_rfl) ?_
      refine T.pure (.string p2) (by kernel_rfl) (fun _ => by kernel_rfl) ?_
      refine T.pure (.int .i64 p4) (by kernel_rfl) (fun _ => by kernel_rfl) ?_
      obtain ⟨r9, hb9, hF⟩ := Option.bind_eq_some_iff.1 hF
      refine T.step (W1.call (vT2 (vSc (eList eSnap)) (vSc eInt)) r9 17 #[.slice A3 r3.1.length c3, .string p2, .int .i64 p4] (by kernel_rfl) (fun _ => by kernel_rfl) (fun w' hh => snap_Add_l F r3.1 p2 p4 r9 hb9 w' A3 c3 (SlOk.mono (SlOk.mono hs3 (View.le_trans (made_le _ _) (View.le_trans (View.le_trans (View.le_trans hV5 hV6) hV7) hV8))) hh.view)) ?_)
      intro u V11 hV11 hu
      obtain ⟨u7, u8, rfl, hu7, hu8⟩ := vT2_elim hu
      obtain ⟨A5, c5, rfl, hs5⟩ := vlist_elim hu7
      obtain rfl := sureInt _ _ _ hu8
      refine T.pure (.tuple #[.slice A5 r9.1.length c5, .int .i64 r9.2]) (by kernel_rfl) (fun _ => by kernel_rfl) ?_
      refine T.pure (.slice A5 r9.1.length c5) (by kernel_rfl) (fun _ => by kernel_rfl) ?_
      refine T.pure (.int .i64 r9.2) (by kernel_rfl) (fun _ => by kernel_rfl) ?_
      refine T.pure (.slice A5 r9.1.length c5) (by kernel_rfl) (fun _ => by kernel_rfl) ?_
      refine T.pure (.int .i64 r9.2) (by kernel_rfl) (fun _ => by kernel_rfl) ?_
      refine T.nil ?_
      refine T.seq ?_
      refine T.region ?_
      refine T.pure (.slice A1 p0.length c1) (by kernel_rfl) (fun _ => by kernel_rfl) ?_
      refine T.pure (.string p2) (by kernel_rfl) (fun _ => by kernel_rfl) ?_
      refine T.pure (.int .i64 p4) (by kernel_rfl) (fun _ => by kernel_rfl) ?_
      obtain ⟨r10, hb10, hF⟩ := Option.bind_eq_some_iff.1 hF
      refine T.step (W1.call (vT2 (vSc (eList eSnap)) (vSc eInt)) r10 17 #[.slice A1 p0.length c1, .string p2, .int .i64 p4] (by kernel_rfl) (fun _ => by kernel_rfl) (fun w' hh => snap_Add_l F p0 p2 p4 r10 hb10 w' A1 c1 (SlOk.mono (SlOk.mono hs1 (View.le_trans (View.le_trans (View.le_trans (View.le_trans (View.le_trans (View.le_trans (View.le_trans hV1 hV2) hV4) hV5) hV6) hV7) hV8) hV11)) hh.view)) ?_)
      intro u V12 hV12 hu
      obtain ⟨u9, u10, rfl, hu9, hu10⟩ := vT2_elim hu
      obtain ⟨A6, c6, rfl, hs6⟩ := vlist_elim hu9
      obtain rfl := sureInt _ _ _ hu10
      refine T.pure (.tuple #[.slice A6 r10.1.length c6, .int .i64 r10.2]) (by kernel_rfl) (fun _ => by kernel_rfl) ?_
      refine T.pure (.slice A6 r10.1.length c6) (by kernel_rfl) (fun _ => by kernel_rfl) ?_
      refine T.pure (.int .i64 r10.2) (by kernel_rfl) (fun _ => by kernel_rfl) ?_
      refine T.pure (.slice A6 r10.1.length c6) (by kernel_rfl) (fun _ => by kernel_rfl) ?_
      refine T.pure (.int .i64 r10.2) (by kernel_rfl) (fun _ => by kernel_rfl) ?_
      refine T.nil ?_
      refine T.seq ?_
      refine T.cut (fun a w' => Fr 125 [(1, .string p1), (3, .int .i64 p3), (20, .slice A5 r9.1.length c5), (21, .slice A6 r10.1.length c6), (110, .bool ((r9.2 != 0) || (r10.2 != 0)))] a ∧ Hp w V12 [] w') ?_ ?_
      ·
       refine T.region ?_
       refine T.pure (.int .i64 r9.2) (by kernel_rfl) (fun _ => by kernel_rfl) ?_
       refine T.pure (.bool (r9.2 != 0)) (by kernel_rfl) (fun _ => by kernel_rfl) ?_
       refine T.pure (.bool (r9.2 != 0)) (by kernel_rfl) (fun _ => by kernel_rfl) ?_
       cases hg7 : (r9.2 != 0)
       ·
        skip
        refine T.pure (.int .i64 r10.2) (by kernel_rfl) (fun _ => by kernel_rfl) ?_
        refine T.pure (.bool (r10.2 != 0)) (by kernel_rfl) (fun _ => by kernel_rfl) ?_
        refine T.pure (.bool (r10.2 != 0)) (by kernel_rfl) (fun _ => by kernel_rfl) ?_
        refine T.nil ?_
        exact fun a w' hf hh => And.intro ((((((Fr.nil hf).pick hf 110 rfl).pick hf 21 rfl).pick hf 20 rfl).pick hf 3 rfl).pick hf 1 rfl) (hh.sub List.Sublist.slnil)
       ·
        skip
        refine T.pass (by kernel_rfl) (by kernel_rfl) ?_
        refine T.pass (by kernel_rfl) (by kernel_rfl) ?_
        refine T.pure (.bool true) (by kernel_rfl) (fun _ => by kernel_rfl) ?_
        refine T.nil ?_
        exact fun a w' hf hh => And.intro ((((((Fr.nil hf).pick hf 110 rfl).pick hf 21 rfl).pick hf 20 rfl).pick hf 3 rfl).pick hf 1 rfl) (hh.sub List.Sublist.slnil)
      ·
       rintro a w' ⟨hf, hh⟩
       refine (?_ : T 125 w V12 [] [(1, .string p1), (3, .int .i64 p3), (20, .slice A5 r9.1.length c5), (21, .slice A6 r10.1.length c6), (110, .bool ((r9.2 != 0) || (r10.2 != 0)))] _) a w' hf hh
       clear hf hh
       refine T.cond ((r9.2 != 0) || (r10.2 != 0)) (by kernel_rfl) (by kernel_rfl) (fun hc4 => ?_) (fun hc4 => ?_)
       ·
        rw [hc4, cond_true] at hF
        refine T.seq ?_
        refine T.region ?_
        refine T.pure (.bool true) (by kernel_rfl) (fun _ => by kernel_rfl) ?_
        refine T.nil ?_
        cases hF
        refine T.ret rfl ?_
        exact T.ret1 rfl (ResIs.tmp rfl) fun w' hh => ⟨_, rfl, hh.below, (show _ from rfl)⟩
       ·
        rw [hc4, cond_false] at hF
        refine T.skip_code ?_
        refine T.seq ?_
        refine T.region ?_
        refine T.pure (.slice A6 r10.1.length c6) (by kernel_rfl) (fun _ => by kernel_rfl) ?_
        refine T.pure (.string p1) (by kernel_rfl) (fun _ => by kernel_rfl) ?_
        refine T.pure (.int .i64 p3) (by kernel_rfl) (fun _ => by kernel_rfl) ?_
        obtain ⟨r11, hb11, hF⟩ := Option.bind_eq_some_iff.1 hF
        refine T.step (W1.call (vT2 (vSc (eList eSnap)) (vSc eInt)) r11 17 #[.slice A6 r10.1.length c6, .string p1, .int .i64 p3] (by kernel_rfl) (fun _ => by kernel_rfl) (fun w' hh => snap_Add_l F r10.1 p1 p3 r11 hb11 w' A6 c6 (SlOk.mono (SlOk.mono hs6 (View.le_trans (made_le _ _) (View.le_refl _))) hh.view)) ?_)
        intro u V13 hV13 hu
        obtain ⟨u11, u12, rfl, hu11, hu12⟩ := vT2_elim hu
        obtain ⟨A7, c7, rfl, hs7⟩ := vlist_elim hu11
        obtain rfl := sureInt _ _ _ hu12
        refine T.pure (.tuple #[.slice A7 r11.1.length c7, .int .i64 r11.2]) (by kernel_rfl) (fun _ => by kernel_rfl) ?_
        refine T.pure (.slice A7 r11.1.length c7) (by kernel_rfl) (fun _ => by kernel_rfl) ?_
        refine T.pure (.int .i64 r11.2) (by kernel_rfl) (fun _ => by kernel_rfl) ?_
        refine T.pure (.slice A7 r11.1.length c7) (by kernel_rfl) (fun _ => by kernel_rfl) ?_
        refine T.pure (.int .i64 r11.2) (by kernel_rfl) (fun _ => by kernel_rfl) ?_
        refine T.nil ?_
        obtain ⟨z3, hX3, hF⟩ := Option.bind_eq_some_iff.1 hF
        refine T.cut (fun a w' => ∃ (V14 : View), View.le V13 V14 ∧ Fr 125 [(10, .bool z3)] a ∧ Hp w V14 [] w') ?_ ?_
        ·
         refine T.region ?_
         refine T.pure (.int .i64 r11.2) (by kernel_rfl) (fun _ => by kernel_rfl) ?_
         refine T.pure (.bool (r11.2 == 0)) (by kernel_rfl) (fun _ => by kernel_rfl) ?_
         refine T.pure (.bool (r11.2 == 0)) (by kernel_rfl) (fun _ => by kernel_rfl) ?_
         cases hg8 : (r11.2 == 0)
         ·
          skip
          rw [hg8, cond_false] at hX3
          refine T.pass (by kernel_rfl) (by kernel_rfl) ?_
          refine T.pass (by kernel_rfl) (by kernel_rfl) ?_
          refine T.pass (by kernel_rfl) (by kernel_rfl) ?_
          refine T.pure (.bool false) (by kernel_rfl) (fun _ => by kernel_rfl) ?_
          refine T.pure (.bool false) (by kernel_rfl) (fun _ => by kernel_rfl) ?_
          refine T.nil ?_
          cases hX3
          exact fun a w' hf hh => Exists.intro V13 (And.intro (View.le_refl _) (And.intro ((Fr.nil hf).pick hf 10 rfl) (hh.sub List.Sublist.slnil)))
         ·
          skip
          rw [hg8, cond_true] at hX3
          refine T.pure (.slice A5 r9.1.length c5) (by kernel_rfl) (fun _ => by kernel_rfl) ?_
          refine T.pure (.slice A7 r11.1.length c7) (by kernel_rfl) (fun _ => by kernel_rfl) ?_
          obtain ⟨r12, hb12, hX3⟩ := Option.bind_eq_some_iff.1 hX3
          refine T.step (W1.call (vSc eBool) r12 18 #[.slice A5 r9.1.length c5, .slice A7 r11.1.length c7] (by kernel_rfl) (fun _ => by kernel_rfl) (fun w' hh => slices_Equal_Snap_l F r9.1 r11.1 r12 hb12 w' A5 c5 (SlOk.mono (SlOk.mono hs5 (View.le_trans (made_le _ _) (View.le_trans hV12 hV13))) hh.view) A7 c7 (SlOk.mono (SlOk.mono hs7 (View.le_trans (made_le _ _) (View.le_refl _))) hh.view)) ?_)
          intro u V15 hV15 hu
          obtain rfl := sureBool _ _ _ hu
          refine T.pure (.bool r12) (by kernel_rfl) (fun _ => by kernel_rfl) ?_
          refine T.pure (.bool r12) (by kernel_rfl) (fun _ => by kernel_rfl) ?_
          refine T.nil ?_
          cases hX3
          exact fun a w' hf hh => Exists.intro V15 (And.intro hV15 (And.intro ((Fr.nil hf).pick hf 10 rfl) (hh.sub List.Sublist.slnil)))
        ·
         rintro a w' ⟨V14, hV14, hf, hh⟩
         refine (?_ : T 125 w V14 [] [(10, .bool z3)] _) a w' hf hh
         clear hf hh
         cases hF
         refine T.ret rfl ?_
         exact T.ret1 rfl (ResIs.tmp rfl) fun w' hh => ⟨_, rfl, hh.below, (show _ from rfl)⟩

end Go.Proofs.Ytjefpcemcckocaa
