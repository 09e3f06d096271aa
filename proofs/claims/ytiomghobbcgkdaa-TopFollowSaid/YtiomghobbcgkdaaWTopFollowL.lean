/- The Go functions of group WTopFollow compute the pure functions of that group: written by walkgen.py. Condition of each: the pure function yields a result. -/
import Derived.Test.YtiomghobbcgkdaaFeedL
import Derived.Test.YtiomghobbcgkdaaTurnL
import Derived.Test.YtiomghobbcgkdaaFileL
import Derived.Test.YtiomghobbcgkdaaEqsL
import Derived.Test.YtiomghobbcgkdaaWTopFollowF
import Derived.Test.YtiomghobbcgkdaaEqL
namespace Go.Proofs.Ytiomghobbcgkdaa
set_option linter.unusedVariables false

set_option maxRecDepth 100000 in
set_option maxHeartbeats 4000000 in
theorem annaltop_TopFollow_l (F : Nat) (p0 : (List ByteArray)) (p1 : Int) (p2 : Int) (r : Bool) (hF : annaltop_TopFollow F p0 p1 p2 = some r) (w : World) (A1 : Option Addr) (c1 : Nat) (hs1 : SlOk (vw w) eStr A1 c1 p0) :
    Calls Try.prog 3 #[.slice A1 p0.length c1, .int .i64 p1, .int .i64 p2] w (Post (vSc eBool) r w) := by
 unfold annaltop_TopFollow at hF
 refine T.start (l := [.slice A1 p0.length c1, .int .i64 p1, .int .i64 p2]) Try.func3 rfl rfl rfl ?_
 refine T.seq ?_
 refine T.region ?_
 refine T.pure (.bool false) (by kernel_rfl) (fun _ => by kernel_rfl) ?_
 refine T.nil ?_
 refine T.seq ?_
 refine T.region ?_
 refine T.step (W1.new 26 ((.slice none 0 0) :: (DA16.cells (DA16.mk 0 0 0 0 0 0 0 0 0 0 0 0 0 0 0 0) ++ (DA16.cells (DA16.mk 0 0 0 0 0 0 0 0 0 0 0 0 0 0 0 0)))) (fun b => .pointer (some ⟨b, 0, none⟩)) (by kernel_rfl) (fun _ => by kernel_rfl) (fun b1 => ?_))
 refine T.step (W1.new 26 ((.slice none 0 0) :: (DA16.cells (DA16.mk 0 0 0 0 0 0 0 0 0 0 0 0 0 0 0 0) ++ (DA16.cells (DA16.mk 0 0 0 0 0 0 0 0 0 0 0 0 0 0 0 0)))) (fun b => .pointer (some ⟨b, 0, none⟩)) (by kernel_rfl) (fun _ => by kernel_rfl) (fun b2 => ?_))
 refine T.nil ?_
 refine T.seq ?_
 refine T.region ?_
 refine T.look (.agg (List.toArray ((.slice none 0 0) :: (DA16.cells (DA16.mk 0 0 0 0 0 0 0 0 0 0 0 0 0 0 0 0) ++ (DA16.cells (DA16.mk 0 0 0 0 0 0 0 0 0 0 0 0 0 0 0 0)))))) (by kernel_rfl) (fun w' hh => exec_loadN (cs := ((.slice none 0 0) :: (DA16.cells (DA16.mk 0 0 0 0 0 0 0 0 0 0 0 0 0 0 0 0) ++ (DA16.cells (DA16.mk 0 0 0 0 0 0 0 0 0 0 0 0 0 0 0 0))))) rfl rfl (by kernel_rfl) (by kernel_rfl) (fun j u hj => (hh.box_at (i := 1) (cs := ((.slice none 0 0) :: (DA16.cells (DA16.mk 0 0 0 0 0 0 0 0 0 0 0 0 0 0 0 0) ++ (DA16.cells (DA16.mk 0 0 0 0 0 0 0 0 0 0 0 0 0 0 0 0))))) (by rfl) 0 j).trans (seg_at (n := 33) (by rfl) hj))) ?_
 obtain ⟨r1, hb1, hF⟩ := Option.bind_eq_some_iff.1 hF
 refine T.step (W1.call (vT2 (vAg eBook) (vSc eInt)) r1 7 #[.agg (List.toArray ((.slice none 0 0) :: (DA16.cells (DA16.mk 0 0 0 0 0 0 0 0 0 0 0 0 0 0 0 0) ++ (DA16.cells (DA16.mk 0 0 0 0 0 0 0 0 0 0 0 0 0 0 0 0))))), .int .i64 3, .int .i64 1] (by kernel_rfl) (fun _ => by kernel_rfl) (fun w' hh => realm_Make_l F (DBook.mk [] (DA16.mk 0 0 0 0 0 0 0 0 0 0 0 0 0 0 0 0) (DA16.mk 0 0 0 0 0 0 0 0 0 0 0 0 0 0 0 0)) 3 1 r1 hb1 w' none 0 (SlOk.nil _ _)) ?_)
 intro u V1 hV1 hu
 obtain ⟨u1, u2, rfl, hu1, hu2⟩ := vT2_elim hu
 obtain ⟨cs1, rfl, hr1⟩ := vagg_elim hu1
 obtain ⟨A2, c2, rfl, hs2⟩ := hr1
 obtain rfl := sureInt _ _ _ hu2
 refine T.pure (.tuple #[.agg (List.toArray ((.slice A2 r1.1.run.length c2) :: (DA16.cells r1.1.roles ++ (DA16.cells r1.1.fed)))), .int .i64 r1.2]) (by kernel_rfl) (fun _ => by kernel_rfl) ?_
 refine T.pure (.agg (List.toArray ((.slice A2 r1.1.run.length c2) :: (DA16.cells r1.1.roles ++ (DA16.cells r1.1.fed))))) (by kernel_rfl) (fun _ => by kernel_rfl) ?_
 refine T.pure (.int .i64 r1.2) (by kernel_rfl) (fun _ => by kernel_rfl) ?_
 refine T.step (W1.store 1 ((.slice A2 r1.1.run.length c2) :: (DA16.cells r1.1.roles ++ (DA16.cells r1.1.fed))) [box b2 26 ((.slice none 0 0) :: (DA16.cells (DA16.mk 0 0 0 0 0 0 0 0 0 0 0 0 0 0 0 0) ++ (DA16.cells (DA16.mk 0 0 0 0 0 0 0 0 0 0 0 0 0 0 0 0)))), box b1 26 ((.slice A2 r1.1.run.length c2) :: (DA16.cells r1.1.roles ++ (DA16.cells r1.1.fed)))] (by rfl) rfl (by kernel_rfl) (fun w' hw => exec_store (vs := ((.slice A2 r1.1.run.length c2) :: (DA16.cells r1.1.roles ++ (DA16.cells r1.1.fed)))) rfl rfl rfl rfl (by kernel_rfl) (one_of rfl) (Nat.le_of_ble_eq_true (by rfl)) rfl hw) ?_)
 refine T.pure (.int .i64 r1.2) (by kernel_rfl) (fun _ => by kernel_rfl) ?_
 refine T.nil ?_
 refine T.seq ?_
 refine T.region ?_
 refine T.look (.agg (List.toArray ((.slice none 0 0) :: (DA16.cells (DA16.mk 0 0 0 0 0 0 0 0 0 0 0 0 0 0 0 0) ++ (DA16.cells (DA16.mk 0 0 0 0 0 0 0 0 0 0 0 0 0 0 0 0)))))) (by kernel_rfl) (fun w' hh => exec_loadN (cs := ((.slice none 0 0) :: (DA16.cells (DA16.mk 0 0 0 0 0 0 0 0 0 0 0 0 0 0 0 0) ++ (DA16.cells (DA16.mk 0 0 0 0 0 0 0 0 0 0 0 0 0 0 0 0))))) rfl rfl (by kernel_rfl) (by kernel_rfl) (fun j u hj => (hh.box_at (i := 0) (cs := ((.slice none 0 0) :: (DA16.cells (DA16.mk 0 0 0 0 0 0 0 0 0 0 0 0 0 0 0 0) ++ (DA16.cells (DA16.mk 0 0 0 0 0 0 0 0 0 0 0 0 0 0 0 0))))) (by rfl) 0 j).trans (seg_at (n := 33) (by rfl) hj))) ?_
 obtain ⟨r2, hb2, hF⟩ := Option.bind_eq_some_iff.1 hF
 refine T.step (W1.call (vT2 (vAg eBook) (vSc eInt)) r2 7 #[.agg (List.toArray ((.slice none 0 0) :: (DA16.cells (DA16.mk 0 0 0 0 0 0 0 0 0 0 0 0 0 0 0 0) ++ (DA16.cells (DA16.mk 0 0 0 0 0 0 0 0 0 0 0 0 0 0 0 0))))), .int .i64 3, .int .i64 2] (by kernel_rfl) (fun _ => by kernel_rfl) (fun w' hh => realm_Make_l F (DBook.mk [] (DA16.mk 0 0 0 0 0 0 0 0 0 0 0 0 0 0 0 0) (DA16.mk 0 0 0 0 0 0 0 0 0 0 0 0 0 0 0 0)) 3 2 r2 hb2 w' none 0 (SlOk.nil _ _)) ?_)
 intro u V2 hV2 hu
 obtain ⟨u3, u4, rfl, hu3, hu4⟩ := vT2_elim hu
 obtain ⟨cs2, rfl, hr2⟩ := vagg_elim hu3
 obtain ⟨A3, c3, rfl, hs3⟩ := hr2
 obtain rfl := sureInt _ _ _ hu4
 refine T.pure (.tuple #[.agg (List.toArray ((.slice A3 r2.1.run.length c3) :: (DA16.cells r2.1.roles ++ (DA16.cells r2.1.fed)))), .int .i64 r2.2]) (by kernel_rfl) (fun _ => by kernel_rfl) ?_
 refine T.pure (.agg (List.toArray ((.slice A3 r2.1.run.length c3) :: (DA16.cells r2.1.roles ++ (DA16.cells r2.1.fed))))) (by kernel_rfl) (fun _ => by kernel_rfl) ?_
 refine T.pure (.int .i64 r2.2) (by kernel_rfl) (fun _ => by kernel_rfl) ?_
 refine T.step (W1.store 0 ((.slice A3 r2.1.run.length c3) :: (DA16.cells r2.1.roles ++ (DA16.cells r2.1.fed))) [box b2 26 ((.slice A3 r2.1.run.length c3) :: (DA16.cells r2.1.roles ++ (DA16.cells r2.1.fed))), box b1 26 ((.slice A2 r1.1.run.length c2) :: (DA16.cells r1.1.roles ++ (DA16.cells r1.1.fed)))] (by rfl) rfl (by kernel_rfl) (fun w' hw => exec_store (vs := ((.slice A3 r2.1.run.length c3) :: (DA16.cells r2.1.roles ++ (DA16.cells r2.1.fed)))) rfl rfl rfl rfl (by kernel_rfl) (one_of rfl) (Nat.le_of_ble_eq_true (by rfl)) rfl hw) ?_)
 refine T.pure (.int .i64 r2.2) (by kernel_rfl) (fun _ => by kernel_rfl) ?_
 refine T.nil ?_
 refine T.seq ?_
 obtain ⟨z1, hX1, hF⟩ := Option.bind_eq_some_iff.1 hF
 refine T.cut (fun a w' => ∃ (V3 : View), View.le V2 V3 ∧ Fr 135 [(0, .slice A1 p0.length c1), (1, .int .i64 p1), (2, .int .i64 p2), (7, .pointer (some ⟨b1, 0, none⟩)), (8, .pointer (some ⟨b2, 0, none⟩)), (37, .bool z1)] a ∧ Hp w V3 [box b2 26 ((.slice A3 r2.1.run.length c3) :: (DA16.cells r2.1.roles ++ (DA16.cells r2.1.fed))), box b1 26 ((.slice A2 r1.1.run.length c2) :: (DA16.cells r1.1.roles ++ (DA16.cells r1.1.fed)))] w') ?_ ?_
 ·
  refine T.region ?_
  obtain ⟨r3, hb3, hX1⟩ := Option.bind_eq_some_iff.1 hX1
  refine T.step (W1.call (vSc eBool) r3 8 #[] (by kernel_rfl) (fun _ => by kernel_rfl) (fun w' hh => annaltop_begun_l F r3 hb3 w' ) ?_)
  intro u V4 hV4 hu
  obtain rfl := sureBool _ _ _ hu
  refine T.pure (.bool (!r3)) (by kernel_rfl) (fun _ => by kernel_rfl) ?_
  refine T.pure (.bool (!r3)) (by kernel_rfl) (fun _ => by kernel_rfl) ?_
  cases hg1 : (!r3)
  ·
   skip
   rw [hg1, cond_false] at hX1
   refine T.pure (.int .i64 r1.2) (by kernel_rfl) (fun _ => by kernel_rfl) ?_
   refine T.pure (.bool (r1.2 != 0)) (by kernel_rfl) (fun _ => by kernel_rfl) ?_
   refine T.pure (.bool (r1.2 != 0)) (by kernel_rfl) (fun _ => by kernel_rfl) ?_
   refine T.pure (.bool (r1.2 != 0)) (by kernel_rfl) (fun _ => by kernel_rfl) ?_
   cases hg2 : (r1.2 != 0)
   ·
    skip
    rw [hg2, cond_false] at hX1
    refine T.pure (.int .i64 r2.2) (by kernel_rfl) (fun _ => by kernel_rfl) ?_
    refine T.pure (.bool (r2.2 != 0)) (by kernel_rfl) (fun _ => by kernel_rfl) ?_
    refine T.pure (.bool (r2.2 != 0)) (by kernel_rfl) (fun _ => by kernel_rfl) ?_
    refine T.nil ?_
    cases hX1
    exact fun a w' hf hh => Exists.intro V4 (And.intro hV4 (And.intro (((((((Fr.nil hf).pick hf 37 rfl).pick hf 8 rfl).pick hf 7 rfl).pick hf 2 rfl).pick hf 1 rfl).pick hf 0 rfl) (hh.sub (.cons_cons _ (.cons_cons _ List.Sublist.slnil)))))
   ·
    skip
    rw [hg2, cond_true] at hX1
    refine T.pass (by kernel_rfl) (by kernel_rfl) ?_
    refine T.pass (by kernel_rfl) (by kernel_rfl) ?_
    refine T.pure (.bool true) (by kernel_rfl) (fun _ => by kernel_rfl) ?_
    refine T.nil ?_
    cases hX1
    exact fun a w' hf hh => Exists.intro V4 (And.intro hV4 (And.intro (((((((Fr.nil hf).pick hf 37 rfl).pick hf 8 rfl).pick hf 7 rfl).pick hf 2 rfl).pick hf 1 rfl).pick hf 0 rfl) (hh.sub (.cons_cons _ (.cons_cons _ List.Sublist.slnil)))))
  ·
   skip
   rw [hg1, cond_true] at hX1
   refine T.pass (by kernel_rfl) (by kernel_rfl) ?_
   refine T.pass (by kernel_rfl) (by kernel_rfl) ?_
   refine T.pure (.bool true) (by kernel_rfl) (fun _ => by kernel_rfl) ?_
   refine T.pure (.bool true) (by kernel_rfl) (fun _ => by kernel_rfl) ?_
   refine T.pass (by kernel_rfl) (by kernel_rfl) ?_
   refine T.pass (by kernel_rfl) (by kernel_rfl) ?_
   refine T.pure (.bool true) (by kernel_rfl) (fun _ => by kernel_rfl) ?_
   refine T.nil ?_
   cases hX1
   exact fun a w' hf hh => Exists.intro V4 (And.intro hV4 (And.intro (((((((Fr.nil hf).pick hf 37 rfl).pick hf 8 rfl).pick hf 7 rfl).pick hf 2 rfl).pick hf 1 rfl).pick hf 0 rfl) (hh.sub (.cons_cons _ (.cons_cons _ List.Sublist.slnil)))))
 ·
  rintro a w' ⟨V3, hV3, hf, hh⟩
  refine (?_ : T 135 w V3 [box b2 26 ((.slice A3 r2.1.run.length c3) :: (DA16.cells r2.1.roles ++ (DA16.cells r2.1.fed))), box b1 26 ((.slice A2 r1.1.run.length c2) :: (DA16.cells r1.1.roles ++ (DA16.cells r1.1.fed)))] [(0, .slice A1 p0.length c1), (1, .int .i64 p1), (2, .int .i64 p2), (7, .pointer (some ⟨b1, 0, none⟩)), (8, .pointer (some ⟨b2, 0, none⟩)), (37, .bool z1)] _) a w' hf hh
  clear hf hh
  refine T.cond z1 (by kernel_rfl) (by kernel_rfl) (fun hc1 => ?_) (fun hc1 => ?_)
  ·
   rw [hc1, cond_true] at hF
   refine T.seq ?_
   refine T.region ?_
   refine T.pure (.bool false) (by kernel_rfl) (fun _ => by kernel_rfl) ?_
   refine T.nil ?_
   cases hF
   refine T.ret rfl ?_
   exact T.ret1 rfl (ResIs.tmp rfl) fun w' hh => ⟨_, rfl, hh.below, (show _ from rfl)⟩
  ·
   rw [hc1, cond_false] at hF
   refine T.skip_code ?_
   refine T.seq ?_
   refine T.region ?_
   refine T.pure (.int .i64 p1) (by kernel_rfl) (fun _ => by kernel_rfl) ?_
   obtain ⟨r4, hb4, hF⟩ := Option.bind_eq_some_iff.1 hF
   refine T.step (W1.call (vSc eInt) r4 9 #[.int .i64 p1, .int .i64 1048577] (by kernel_rfl) (fun _ => by kernel_rfl) (fun w' hh => annalkeep_Within_l p1 1048577 r4 hb4 w' ) ?_)
   intro u V5 hV5 hu
   obtain rfl := sureInt _ _ _ hu
   refine T.pure (.int .i64 r4) (by kernel_rfl) (fun _ => by kernel_rfl) ?_
   refine T.nil ?_
   refine T.seq ?_
   refine T.region ?_
   refine T.pure (.slice A1 p0.length c1) (by kernel_rfl) (fun _ => by kernel_rfl) ?_
   refine T.pure (.slice A1 p0.length c1) (by kernel_rfl) (fun _ => by kernel_rfl) ?_
   refine T.pure (.int .i64 (p0.length : Int)) (by kernel_rfl) (fun _ => by kernel_rfl) ?_
   refine T.pure (.int .i64 (if (12 : Int) < (p0.length : Int) then 12 else (p0.length : Int))) (by kernel_rfl) (fun _ => by kernel_rfl) ?_
   obtain ⟨s1, hb5, hF⟩ := Option.bind_eq_some_iff.1 hF
   refine T.look (.slice A1 s1.length c1) (by kernel_rfl) (fun w' hh => exec_slice_list0 (e := 9) (s := 1) (lx := none) (hx := (some _)) (k := .i64) (k' := .i64) rfl rfl (by kernel_rfl) (by kernel_rfl) ((SlOk.mono hs1 (View.le_trans (View.le_trans (View.le_trans hV1 hV2) hV3) hV5))).1 rfl rfl hb5) ?_
   refine T.pure (.slice A1 s1.length c1) (by kernel_rfl) (fun _ => by kernel_rfl) ?_
   refine T.nil ?_
   refine T.seq ?_
   refine T.seq ?_
   refine T.region ?_
   refine T.pure (.slice A1 s1.length c1) (by kernel_rfl) (fun _ => by kernel_rfl) ?_
   refine T.pure (.int .i64 (s1.length : Int)) (by kernel_rfl) (fun _ => by kernel_rfl) ?_
   refine T.pure (.int .i64 0) (by kernel_rfl) (fun _ => by kernel_rfl) ?_
   refine T.nil ?_
   obtain ⟨q1, hz1, hF⟩ := Option.bind_eq_some_iff.1 hF
   refine T.mid (fun a w' => ∃ (z2 : List DElem) (z3 : DA16) (z4 : DA16) (z5 : List DElem), q1 = Sum.inl (z2, z3, z4, z5) ∧ ∃ (A8 : Option Addr) (c8 : Nat) (A9 : Option Addr) (c9 : Nat) (A10 : Option Addr) (c10 : Nat) (V7 : View), View.le V5 V7 ∧ SlOk (made w V7) eElem A8 c8 z2 ∧ SlOk (made w V7) eElem A9 c9 z5 ∧ SlOk V7 eStr A10 c10 s1 ∧ Fr 135 [(0, .slice A10 s1.length c10), (1, .int .i64 r4), (2, .int .i64 p2), (7, .pointer (some ⟨b1, 0, none⟩)), (8, .pointer (some ⟨b2, 0, none⟩))] a ∧ Hp w V7 [box b2 26 ((.slice A8 z2.length c8) :: (DA16.cells z3 ++ (DA16.cells z4))), box b1 26 ((.slice A9 z5.length c9) :: (DA16.cells r1.1.roles ++ (DA16.cells r1.1.fed)))] w') ?_ ?_
   ·
    refine T.block ?_
    refine T.iter (fun s2 a w' => ∃ (x1 : List DElem) (x2 : DA16) (x3 : DA16) (x4 : List DElem) (x5 : Int), s2 = (x1, x2, x3, x4, x5) ∧ ∃ (A4 : Option Addr) (c4 : Nat) (A5 : Option Addr) (c5 : Nat) (A6 : Option Addr) (c6 : Nat) (A7 : Option Addr) (c7 : Nat) (V6 : View), View.le V5 V6 ∧ SlOk (made w V6) eElem A4 c4 x1 ∧ SlOk (made w V6) eElem A5 c5 x4 ∧ SlOk V6 eStr A6 c6 s1 ∧ SlOk V6 eStr A7 c7 s1 ∧ Fr 135 [(0, .slice A6 s1.length c6), (1, .int .i64 r4), (2, .int .i64 p2), (7, .pointer (some ⟨b1, 0, none⟩)), (8, .pointer (some ⟨b2, 0, none⟩)), (45, .slice A7 s1.length c7), (46, .int .i64 (s1.length : Int)), (47, .int .i64 x5)] a ∧ Hp w V6 [box b2 26 ((.slice A4 x1.length c4) :: (DA16.cells x2 ++ (DA16.cells x3))), box b1 26 ((.slice A5 x4.length c5) :: (DA16.cells r1.1.roles ++ (DA16.cells r1.1.fed)))] w') hz1 ?_ ?_
    ·
     exact fun a w' hf hh => Exists.intro r2.1.run (Exists.intro r2.1.roles (Exists.intro r2.1.fed (Exists.intro r1.1.run (Exists.intro 0 (And.intro rfl (Exists.intro A3 (Exists.intro c3 (Exists.intro A2 (Exists.intro c2 (Exists.intro A1 (Exists.intro c1 (Exists.intro A1 (Exists.intro c1 (Exists.intro V5 (And.intro (View.le_refl _) (And.intro (SlOk.mono hs3 (made_mono (View.le_trans hV3 hV5))) (And.intro (SlOk.mono hs2 (made_mono (View.le_trans (View.le_trans hV2 hV3) hV5))) (And.intro (SlOk.cut0 (SlOk.mono hs1 (View.le_trans (View.le_trans (View.le_trans hV1 hV2) hV3) hV5)) hb5) (And.intro (SlOk.cut0 (SlOk.mono hs1 (View.le_trans (View.le_trans (View.le_trans hV1 hV2) hV3) hV5)) hb5) (And.intro (((((((((Fr.nil hf).pick hf 47 rfl).pick hf 46 rfl).pick hf 45 rfl).pick hf 8 rfl).pick hf 7 rfl).pick hf 2 rfl).pick hf 1 rfl).pick hf 0 rfl) (hh.sub (.cons_cons _ (.cons_cons _ List.Sublist.slnil)))))))))))))))))))))))
    ·
     rintro s2 y1 hY1 hr3 a w' ⟨x1, x2, x3, x4, x5, rfl, A4, c4, A5, c5, A6, c6, A7, c7, V6, hV6, hs4, hs5, hs6, hs7, hf, hh⟩
     refine (?_ : T 135 w V6 [box b2 26 ((.slice A4 x1.length c4) :: (DA16.cells x2 ++ (DA16.cells x3))), box b1 26 ((.slice A5 x4.length c5) :: (DA16.cells r1.1.roles ++ (DA16.cells r1.1.fed)))] [(0, .slice A6 s1.length c6), (1, .int .i64 r4), (2, .int .i64 p2), (7, .pointer (some ⟨b1, 0, none⟩)), (8, .pointer (some ⟨b2, 0, none⟩)), (45, .slice A7 s1.length c7), (46, .int .i64 (s1.length : Int)), (47, .int .i64 x5)] _) a w' hf hh
     clear hf hh
     try dsimp only at hY1
     refine T.seq ?_
     refine T.region ?_
     refine T.pure (.bool (decide (x5 < (s1.length : Int)))) (by kernel_rfl) (fun _ => by kernel_rfl) ?_
     refine T.nil ?_
     refine T.seq ?_
     refine T.cond (decide (x5 < (s1.length : Int))) (by kernel_rfl) (by kernel_rfl) (fun hc2 => ?_) (fun hc2 => ?_)
     ·
      rw [hc2, cond_true] at hY1
      refine T.skip_code ?_
      refine T.seq ?_
      refine T.block ?_
      refine T.seq ?_
      refine T.region ?_
      refine T.pure (.int .i64 x5) (by kernel_rfl) (fun _ => by kernel_rfl) ?_
      obtain ⟨e1, hb6, hY1⟩ := Option.bind_eq_some_iff.1 hY1
      obtain ⟨hi1, hi2, hi3⟩ := idx_some hb6
      refine T.look (.pointer (some ((sadr A7).add (x5.toNat * 1)))) (by kernel_rfl) (fun w' hh => exec_indexAddr (e := 9) (s := 1) rfl rfl rfl (by kernel_rfl) (by kernel_rfl) hi1 hi2 (hs7.some_ hi3 (by decide))) ?_
      refine T.look (.string e1) (by kernel_rfl) (fun w' hh => exec_load1 rfl rfl (by kernel_rfl) (hh.cell_view (SlOk.cellF0 (E := eStr) hs7 hi3 (fun _ _ _ h => h) rfl))) ?_
      refine T.pure (.int .i64 x5) (by kernel_rfl) (fun _ => by kernel_rfl) ?_
      refine T.pure (.string e1) (by kernel_rfl) (fun _ => by kernel_rfl) ?_
      refine T.nil ?_
      refine T.seq ?_
      refine T.region ?_
      refine T.pure (.pointer (some ⟨b1, 0, none⟩)) (by kernel_rfl) (fun _ => by kernel_rfl) ?_
      refine T.look (.slice A5 x4.length c5) (by kernel_rfl) (fun w' hh => exec_load1 rfl rfl (by kernel_rfl) (hh.cellBox (i := 1) (by rfl) 0)) ?_
      refine T.pure (.int .i64 r4) (by kernel_rfl) (fun _ => by kernel_rfl) ?_
      refine T.pure (.string e1) (by kernel_rfl) (fun _ => by kernel_rfl) ?_
      refine T.pure (.int .i64 x5) (by kernel_rfl) (fun _ => by kernel_rfl) ?_
      refine T.pure (.int .i64 (IntKind.i64.wrap (x5 + 1))) (by kernel_rfl) (fun _ => by kernel_rfl) ?_
      obtain ⟨r5, hb7, hY1⟩ := Option.bind_eq_some_iff.1 hY1
      refine T.step (W1.call (vT2 (vSc (eList eElem)) (vSc eInt)) r5 10 #[.slice A5 x4.length c5, .int .i64 3, .int .i64 r4, .string e1, .int .i64 (IntKind.i64.wrap (x5 + 1))] (by kernel_rfl) (fun _ => by kernel_rfl) (fun w' hh => file_Set_l F x4 3 r4 e1 (IntKind.i64.wrap (x5 + 1)) r5 hb7 w' A5 c5 (SlOk.mono (SlOk.mono hs5 (View.le_trans (made_le _ _) (View.le_refl _))) hh.view)) ?_)
      intro u V8 hV8 hu
      obtain ⟨u5, u6, rfl, hu5, hu6⟩ := vT2_elim hu
      obtain ⟨A11, c11, rfl, hs11⟩ := vlist_elim hu5
      obtain rfl := sureInt _ _ _ hu6
      refine T.pure (.tuple #[.slice A11 r5.1.length c11, .int .i64 r5.2]) (by kernel_rfl) (fun _ => by kernel_rfl) ?_
      refine T.pure (.slice A11 r5.1.length c11) (by kernel_rfl) (fun _ => by kernel_rfl) ?_
      refine T.pure (.int .i64 r5.2) (by kernel_rfl) (fun _ => by kernel_rfl) ?_
      refine T.pure (.slice A11 r5.1.length c11) (by kernel_rfl) (fun _ => by kernel_rfl) ?_
      refine T.pure (.int .i64 r5.2) (by kernel_rfl) (fun _ => by kernel_rfl) ?_
      refine T.nil ?_
      refine T.seq ?_
      refine T.seq ?_
      refine T.region ?_
      refine T.pure (.int .i64 r5.2) (by kernel_rfl) (fun _ => by kernel_rfl) ?_
      refine T.pure (.bool (r5.2 != 0)) (by kernel_rfl) (fun _ => by kernel_rfl) ?_
      refine T.nil ?_
      refine T.cond (r5.2 != 0) (by kernel_rfl) (by kernel_rfl) (fun hc3 => ?_) (fun hc3 => ?_)
      ·
       rw [hc3, cond_true] at hY1
       refine T.cut (fun a w' => Fr 135 [(6, .bool ((decide ((320 : Int) < (e1.size : Int))) || (r5.2 == 8)))] a ∧ Hp w V8 [] w') ?_ ?_
       ·
        refine T.region ?_
        refine T.pure (.string e1) (by kernel_rfl) (fun _ => by kernel_rfl) ?_
        refine T.pure (.int .i64 (e1.size : Int)) (by kernel_rfl) (fun _ => by kernel_rfl) ?_
        refine T.pure (.bool (decide ((320 : Int) < (e1.size : Int)))) (by kernel_rfl) (fun _ => by kernel_rfl) ?_
        refine T.pure (.bool (decide ((320 : Int) < (e1.size : Int)))) (by kernel_rfl) (fun _ => by kernel_rfl) ?_
        cases hg3 : decide ((320 : Int) < (e1.size : Int))
        ·
         skip
         refine T.pure (.int .i64 r5.2) (by kernel_rfl) (fun _ => by kernel_rfl) ?_
         refine T.pure (.bool (r5.2 == 8)) (by kernel_rfl) (fun _ => by kernel_rfl) ?_
         refine T.pure (.bool (r5.2 == 8)) (by kernel_rfl) (fun _ => by kernel_rfl) ?_
         refine T.pure (.bool (r5.2 == 8)) (by kernel_rfl) (fun _ => by kernel_rfl) ?_
         refine T.nil ?_
         exact fun a w' hf hh => And.intro ((Fr.nil hf).pick hf 6 rfl) (hh.sub (.cons _ (.cons _ List.Sublist.slnil)))
        ·
         skip
         refine T.pass (by kernel_rfl) (by kernel_rfl) ?_
         refine T.pass (by kernel_rfl) (by kernel_rfl) ?_
         refine T.pure (.bool true) (by kernel_rfl) (fun _ => by kernel_rfl) ?_
         refine T.pure (.bool true) (by kernel_rfl) (fun _ => by kernel_rfl) ?_
         refine T.nil ?_
         exact fun a w' hf hh => And.intro ((Fr.nil hf).pick hf 6 rfl) (hh.sub (.cons _ (.cons _ List.Sublist.slnil)))
       ·
        rintro a w' ⟨hf, hh⟩
        refine (?_ : T 135 w V8 [] [(6, .bool ((decide ((320 : Int) < (e1.size : Int))) || (r5.2 == 8)))] _) a w' hf hh
        clear hf hh
        cases hY1
        cases (hr3 _ rfl)
        try dsimp only at hF
        cases hF
        refine T.ret rfl ?_
        exact T.ret1 rfl (ResIs.tmp rfl) fun w' hh => ⟨_, rfl, hh.below, (show _ from rfl)⟩
      ·
       rw [hc3, cond_false] at hY1
       refine T.skip_code ?_
       refine T.seq ?_
       refine T.region ?_
       refine T.pure (.slice A11 r5.1.length c11) (by kernel_rfl) (fun _ => by kernel_rfl) ?_
       refine T.pure (.pointer (some ⟨b1, 0, none⟩)) (by kernel_rfl) (fun _ => by kernel_rfl) ?_
       refine T.step (W1.store 1 ((.slice A11 r5.1.length c11) :: (DA16.cells r1.1.roles ++ (DA16.cells r1.1.fed))) [box b2 26 ((.slice A4 x1.length c4) :: (DA16.cells x2 ++ (DA16.cells x3))), box b1 26 ((.slice A11 r5.1.length c11) :: (DA16.cells r1.1.roles ++ (DA16.cells r1.1.fed)))] (by rfl) rfl (by kernel_rfl) (fun w' hw => exec_store (vs := [.slice A11 r5.1.length c11]) rfl rfl rfl rfl (by kernel_rfl) (one_of rfl) (Nat.le_of_ble_eq_true (by rfl)) rfl hw) ?_)
       refine T.nil ?_
       refine T.seq ?_
       refine T.region ?_
       refine T.pure (.pointer (some ⟨b1, 0, none⟩)) (by kernel_rfl) (fun _ => by kernel_rfl) ?_
       refine T.look (.slice A11 r5.1.length c11) (by kernel_rfl) (fun w' hh => exec_load1 rfl rfl (by kernel_rfl) (hh.cellBox (i := 1) (by rfl) 0)) ?_
       refine T.pure (.int .i64 x5) (by kernel_rfl) (fun _ => by kernel_rfl) ?_
       refine T.pure (.int .i64 x5) (by kernel_rfl) (fun _ => by kernel_rfl) ?_
       refine T.pure (.int .i64 (IntKind.i64.wrap (x5 + 1))) (by kernel_rfl) (fun _ => by kernel_rfl) ?_
       obtain ⟨r6, hb8, hY1⟩ := Option.bind_eq_some_iff.1 hY1
       refine T.step (W1.call (vT2 (vSc eStr) (vSc eInt)) r6 11 #[.slice A11 r5.1.length c11, .int .i64 3, .int .i64 x5, .int .i64 (IntKind.i64.wrap (x5 + 1))] (by kernel_rfl) (fun _ => by kernel_rfl) (fun w' hh => stream_Read_l F r5.1 3 x5 (IntKind.i64.wrap (x5 + 1)) r6 hb8 w' A11 c11 (SlOk.mono (SlOk.mono hs11 (View.le_trans (made_le _ _) (View.le_refl _))) hh.view)) ?_)
       intro u V9 hV9 hu
       obtain rfl := (Sure.t2 sureStr sureInt) _ _ _ hu
       refine T.pure (.tuple #[.string r6.1, .int .i64 r6.2]) (by kernel_rfl) (fun _ => by kernel_rfl) ?_
       refine T.pure (.string r6.1) (by kernel_rfl) (fun _ => by kernel_rfl) ?_
       refine T.pure (.int .i64 r6.2) (by kernel_rfl) (fun _ => by kernel_rfl) ?_
       refine T.pure (.string r6.1) (by kernel_rfl) (fun _ => by kernel_rfl) ?_
       refine T.pure (.int .i64 r6.2) (by kernel_rfl) (fun _ => by kernel_rfl) ?_
       refine T.nil ?_
       refine T.seq ?_
       refine T.seq ?_
       refine T.region ?_
       refine T.pure (.int .i64 r6.2) (by kernel_rfl) (fun _ => by kernel_rfl) ?_
       refine T.pure (.bool (r6.2 != 0)) (by kernel_rfl) (fun _ => by kernel_rfl) ?_
       refine T.nil ?_
       refine T.cond (r6.2 != 0) (by kernel_rfl) (by kernel_rfl) (fun hc4 => ?_) (fun hc4 => ?_)
       ·
        rw [hc4, cond_true] at hY1
        refine T.seq ?_
        refine T.region ?_
        refine T.pure (.bool false) (by kernel_rfl) (fun _ => by kernel_rfl) ?_
        refine T.nil ?_
        cases hY1
        cases (hr3 _ rfl)
        try dsimp only at hF
        cases hF
        refine T.ret rfl ?_
        exact T.ret1 rfl (ResIs.tmp rfl) fun w' hh => ⟨_, rfl, hh.below, (show _ from rfl)⟩
       ·
        rw [hc4, cond_false] at hY1
        refine T.skip_code ?_
        refine T.seq ?_
        refine T.region ?_
        refine T.look (.agg (List.toArray ((.slice A4 x1.length c4) :: (DA16.cells x2 ++ (DA16.cells x3))))) (by kernel_rfl) (fun w' hh => exec_loadN (cs := ((.slice A4 x1.length c4) :: (DA16.cells x2 ++ (DA16.cells x3)))) rfl rfl (by kernel_rfl) (by kernel_rfl) (fun j u hj => (hh.box_at (i := 0) (cs := ((.slice A4 x1.length c4) :: (DA16.cells x2 ++ (DA16.cells x3)))) (by rfl) 0 j).trans (seg_at (n := 33) (by rfl) hj))) ?_
        refine T.pure (.string r6.1) (by kernel_rfl) (fun _ => by kernel_rfl) ?_
        obtain ⟨r7, hb9, hY1⟩ := Option.bind_eq_some_iff.1 hY1
        refine T.step (W1.call (vT2 (vAg eBook) (vSc eInt)) r7 12 #[.agg (List.toArray ((.slice A4 x1.length c4) :: (DA16.cells x2 ++ (DA16.cells x3)))), .string r6.1] (by kernel_rfl) (fun _ => by kernel_rfl) (fun w' hh => realm_Feed_l F (DBook.mk x1 x2 x3) r6.1 r7 hb9 w' A4 c4 (SlOk.mono (SlOk.mono hs4 (View.le_trans (made_le _ _) (View.le_trans hV8 hV9))) hh.view)) ?_)
        intro u V10 hV10 hu
        obtain ⟨u7, u8, rfl, hu7, hu8⟩ := vT2_elim hu
        obtain ⟨cs3, rfl, hr4⟩ := vagg_elim hu7
        obtain ⟨A12, c12, rfl, hs12⟩ := hr4
        obtain rfl := sureInt _ _ _ hu8
        refine T.pure (.tuple #[.agg (List.toArray ((.slice A12 r7.1.run.length c12) :: (DA16.cells r7.1.roles ++ (DA16.cells r7.1.fed)))), .int .i64 r7.2]) (by kernel_rfl) (fun _ => by kernel_rfl) ?_
        refine T.pure (.agg (List.toArray ((.slice A12 r7.1.run.length c12) :: (DA16.cells r7.1.roles ++ (DA16.cells r7.1.fed))))) (by kernel_rfl) (fun _ => by kernel_rfl) ?_
        refine T.pure (.int .i64 r7.2) (by kernel_rfl) (fun _ => by kernel_rfl) ?_
        refine T.step (W1.store 0 ((.slice A12 r7.1.run.length c12) :: (DA16.cells r7.1.roles ++ (DA16.cells r7.1.fed))) [box b2 26 ((.slice A12 r7.1.run.length c12) :: (DA16.cells r7.1.roles ++ (DA16.cells r7.1.fed))), box b1 26 ((.slice A11 r5.1.length c11) :: (DA16.cells r1.1.roles ++ (DA16.cells r1.1.fed)))] (by rfl) rfl (by kernel_rfl) (fun w' hw => exec_store (vs := ((.slice A12 r7.1.run.length c12) :: (DA16.cells r7.1.roles ++ (DA16.cells r7.1.fed)))) rfl rfl rfl rfl (by kernel_rfl) (one_of rfl) (Nat.le_of_ble_eq_true (by rfl)) rfl hw) ?_)
        refine T.pure (.int .i64 r7.2) (by kernel_rfl) (fun _ => by kernel_rfl) ?_
        refine T.nil ?_
        refine T.seq ?_
        refine T.region ?_
        refine T.pure (.int .i64 r7.2) (by kernel_rfl) (fun _ => by kernel_rfl) ?_
        refine T.pure (.bool (r7.2 != 0)) (by kernel_rfl) (fun _ => by kernel_rfl) ?_
        refine T.nil ?_
        refine T.cond (r7.2 != 0) (by kernel_rfl) (by kernel_rfl) (fun hc5 => ?_) (fun hc5 => ?_)
        ·
         rw [hc5, cond_true] at hY1
         refine T.seq ?_
         refine T.region ?_
         refine T.pure (.bool false) (by kernel_rfl) (fun _ => by kernel_rfl) ?_
         refine T.nil ?_
         cases hY1
         cases (hr3 _ rfl)
         try dsimp only at hF
         cases hF
         refine T.ret rfl ?_
         exact T.ret1 rfl (ResIs.tmp rfl) fun w' hh => ⟨_, rfl, hh.below, (show _ from rfl)⟩
        ·
         rw [hc5, cond_false] at hY1
         refine T.skip_code ?_
         refine T.region ?_
         refine T.pure (.int .i64 (IntKind.i64.wrap (x5 + 1))) (by kernel_rfl) (fun _ => by kernel_rfl) ?_
         refine T.pure (.int .i64 (IntKind.i64.wrap (x5 + 1))) (by kernel_rfl) (fun _ => by kernel_rfl) ?_
         refine T.nil ?_
         cases hY1
         exact fun a w' hf hh => Exists.intro (r7.1.run, r7.1.roles, r7.1.fed, r5.1, IntKind.i64.wrap (x5 + 1)) (And.intro rfl (Exists.intro r7.1.run (Exists.intro r7.1.roles (Exists.intro r7.1.fed (Exists.intro r5.1 (Exists.intro (IntKind.i64.wrap (x5 + 1)) (And.intro rfl (Exists.intro A12 (Exists.intro c12 (Exists.intro A11 (Exists.intro c11 (Exists.intro A6 (Exists.intro c6 (Exists.intro A7 (Exists.intro c7 (Exists.intro V10 (And.intro (View.le_trans (View.le_trans (View.le_trans hV6 hV8) hV9) hV10) (And.intro (SlOk.mono hs12 (made_mono (View.le_refl _))) (And.intro (SlOk.mono hs11 (made_mono (View.le_trans hV9 hV10))) (And.intro (SlOk.mono hs6 (View.le_trans (View.le_trans hV8 hV9) hV10)) (And.intro (SlOk.mono hs7 (View.le_trans (View.le_trans hV8 hV9) hV10)) (And.intro (((((((((Fr.nil hf).pick hf 47 rfl).pick hf 46 rfl).pick hf 45 rfl).pick hf 8 rfl).pick hf 7 rfl).pick hf 2 rfl).pick hf 1 rfl).pick hf 0 rfl) (hh.sub (.cons_cons _ (.cons_cons _ List.Sublist.slnil)))))))))))))))))))))))))
     ·
      rw [hc2, cond_false] at hY1
      refine T.exit ?_
      cases hY1
      cases (hr3 _ rfl)
      exact fun a w' hf hh => Exists.intro x1 (Exists.intro x2 (Exists.intro x3 (Exists.intro x4 (And.intro rfl (Exists.intro A4 (Exists.intro c4 (Exists.intro A5 (Exists.intro c5 (Exists.intro A6 (Exists.intro c6 (Exists.intro V6 (And.intro hV6 (And.intro (SlOk.mono hs4 (made_mono (View.le_refl _))) (And.intro (SlOk.mono hs5 (made_mono (View.le_refl _))) (And.intro hs6 (And.intro ((((((Fr.nil hf).pick hf 8 rfl).pick hf 7 rfl).pick hf 2 rfl).pick hf 1 rfl).pick hf 0 rfl) (hh.sub (.cons_cons _ (.cons_cons _ List.Sublist.slnil)))))))))))))))))))
   ·
    rintro a w' ⟨z2, z3, z4, z5, rfl, A8, c8, A9, c9, A10, c10, V7, hV7, hs8, hs9, hs10, hf, hh⟩
    try dsimp only at hF
    refine (?_ : T 135 w V7 [box b2 26 ((.slice A8 z2.length c8) :: (DA16.cells z3 ++ (DA16.cells z4))), box b1 26 ((.slice A9 z5.length c9) :: (DA16.cells r1.1.roles ++ (DA16.cells r1.1.fed)))] [(0, .slice A10 s1.length c10), (1, .int .i64 r4), (2, .int .i64 p2), (7, .pointer (some ⟨b1, 0, none⟩)), (8, .pointer (some ⟨b2, 0, none⟩))] _) a w' hf hh
    clear hf hh
    refine T.seq ?_
    refine T.region ?_
    refine T.pure (.int .i64 p2) (by kernel_rfl) (fun _ => by kernel_rfl) ?_
    refine T.pure (.slice A10 s1.length c10) (by kernel_rfl) (fun _ => by kernel_rfl) ?_
    refine T.pure (.int .i64 (s1.length : Int)) (by kernel_rfl) (fun _ => by kernel_rfl) ?_
    refine T.pure (.int .i64 (IntKind.i64.wrap ((s1.length : Int) + 1))) (by kernel_rfl) (fun _ => by kernel_rfl) ?_
    obtain ⟨r8, hb10, hF⟩ := Option.bind_eq_some_iff.1 hF
    refine T.step (W1.call (vSc eInt) r8 9 #[.int .i64 p2, .int .i64 (IntKind.i64.wrap ((s1.length : Int) + 1))] (by kernel_rfl) (fun _ => by kernel_rfl) (fun w' hh => annalkeep_Within_l p2 (IntKind.i64.wrap ((s1.length : Int) + 1)) r8 hb10 w' ) ?_)
    intro u V11 hV11 hu
    obtain rfl := sureInt _ _ _ hu
    refine T.pure (.int .i64 r8) (by kernel_rfl) (fun _ => by kernel_rfl) ?_
    refine T.nil ?_
    refine T.seq ?_
    refine T.region ?_
    refine T.pure (.pointer (some ⟨b2, 0, none⟩)) (by kernel_rfl) (fun _ => by kernel_rfl) ?_
    refine T.look (.slice A8 z2.length c8) (by kernel_rfl) (fun w' hh => exec_load1 rfl rfl (by kernel_rfl) (hh.cellBox (i := 0) (by rfl) 0)) ?_
    refine T.pure (.int .i64 r4) (by kernel_rfl) (fun _ => by kernel_rfl) ?_
    refine T.pure (.int .i64 r8) (by kernel_rfl) (fun _ => by kernel_rfl) ?_
    obtain ⟨r9, hb11, hF⟩ := Option.bind_eq_some_iff.1 hF
    refine T.step (W1.call (vT2 (vSc eStr) (vSc eInt)) r9 13 #[.slice A8 z2.length c8, .int .i64 3, .int .i64 r4, .int .i64 r8] (by kernel_rfl) (fun _ => by kernel_rfl) (fun w' hh => file_Get_l F z2 3 r4 r8 r9 hb11 w' A8 c8 (SlOk.mono (SlOk.mono hs8 (View.le_trans (made_le _ _) hV11)) hh.view)) ?_)
    intro u V12 hV12 hu
    obtain rfl := (Sure.t2 sureStr sureInt) _ _ _ hu
    refine T.pure (.tuple #[.string r9.1, .int .i64 r9.2]) (by kernel_rfl) (fun _ => by kernel_rfl) ?_
    refine T.pure (.string r9.1) (by kernel_rfl) (fun _ => by kernel_rfl) ?_
    refine T.pure (.int .i64 r9.2) (by kernel_rfl) (fun _ => by kernel_rfl) ?_
    refine T.pure (.string r9.1) (by kernel_rfl) (fun _ => by kernel_rfl) ?_
    refine T.pure (.int .i64 r9.2) (by kernel_rfl) (fun _ => by kernel_rfl) ?_
    refine T.nil ?_
    refine T.seq ?_
    refine T.region ?_
    refine T.pure (.string (ByteArray.mk #[])) (by kernel_rfl) (fun _ => by kernel_rfl) ?_
    refine T.nil ?_
    obtain ⟨z6, hX2, hF⟩ := Option.bind_eq_some_iff.1 hF
    refine T.cut (fun a w' => Fr 135 [(0, .slice A10 s1.length c10), (7, .pointer (some ⟨b1, 0, none⟩)), (8, .pointer (some ⟨b2, 0, none⟩)), (9, .int .i64 r9.2), (16, .string r9.1), (17, .string z6)] a ∧ Hp w V12 [box b2 26 ((.slice A8 z2.length c8) :: (DA16.cells z3 ++ (DA16.cells z4))), box b1 26 ((.slice A9 z5.length c9) :: (DA16.cells r1.1.roles ++ (DA16.cells r1.1.fed)))] w') ?_ ?_
    ·
     refine T.seq ?_
     refine T.region ?_
     refine T.pure (.int .i64 r8) (by kernel_rfl) (fun _ => by kernel_rfl) ?_
     refine T.pure (.bool (decide ((0 : Int) < r8))) (by kernel_rfl) (fun _ => by kernel_rfl) ?_
     refine T.nil ?_
     refine T.cond (decide ((0 : Int) < r8)) (by kernel_rfl) (by kernel_rfl) (fun hc6 => ?_) (fun hc6 => ?_)
     ·
      rw [hc6, cond_true] at hX2
      refine T.region ?_
      refine T.pure (.slice A10 s1.length c10) (by kernel_rfl) (fun _ => by kernel_rfl) ?_
      refine T.pure (.int .i64 r8) (by kernel_rfl) (fun _ => by kernel_rfl) ?_
      refine T.pure (.int .i64 (IntKind.i64.wrap (r8 - 1))) (by kernel_rfl) (fun _ => by kernel_rfl) ?_
      obtain ⟨e2, hb12, hX2⟩ := Option.bind_eq_some_iff.1 hX2
      obtain ⟨hi4, hi5, hi6⟩ := idx_some hb12
      refine T.look (.pointer (some ((sadr A10).add (((IntKind.i64.wrap (r8 - 1)).toNat) * 1)))) (by kernel_rfl) (fun w' hh => exec_indexAddr (e := 9) (s := 1) rfl rfl rfl (by kernel_rfl) (by kernel_rfl) hi4 hi5 ((SlOk.mono hs10 (View.le_trans hV11 hV12)).some_ hi6 (by decide))) ?_
      refine T.look (.string e2) (by kernel_rfl) (fun w' hh => exec_load1 rfl rfl (by kernel_rfl) (hh.cell_view (SlOk.cellF0 (E := eStr) (SlOk.mono hs10 (View.le_trans hV11 hV12)) hi6 (fun _ _ _ h => h) rfl))) ?_
      refine T.pure (.string e2) (by kernel_rfl) (fun _ => by kernel_rfl) ?_
      refine T.nil ?_
      cases hX2
      exact fun a w' hf hh => And.intro (((((((Fr.nil hf).pick hf 17 rfl).pick hf 16 rfl).pick hf 9 rfl).pick hf 8 rfl).pick hf 7 rfl).pick hf 0 rfl) (hh.sub (.cons_cons _ (.cons_cons _ List.Sublist.slnil)))
     ·
      rw [hc6, cond_false] at hX2
      refine T.skip_code ?_
      cases hX2
      exact fun a w' hf hh => And.intro (((((((Fr.nil hf).pick hf 17 rfl).pick hf 16 rfl).pick hf 9 rfl).pick hf 8 rfl).pick hf 7 rfl).pick hf 0 rfl) (hh.sub (.cons_cons _ (.cons_cons _ List.Sublist.slnil)))
    ·
     rintro a w' ⟨hf, hh⟩
     refine (?_ : T 135 w V12 [box b2 26 ((.slice A8 z2.length c8) :: (DA16.cells z3 ++ (DA16.cells z4))), box b1 26 ((.slice A9 z5.length c9) :: (DA16.cells r1.1.roles ++ (DA16.cells r1.1.fed)))] [(0, .slice A10 s1.length c10), (7, .pointer (some ⟨b1, 0, none⟩)), (8, .pointer (some ⟨b2, 0, none⟩)), (9, .int .i64 r9.2), (16, .string r9.1), (17, .string z6)] _) a w' hf hh
     clear hf hh
     obtain ⟨z7, hX3, hF⟩ := Option.bind_eq_some_iff.1 hF
     refine T.cut (fun a w' => ∃ (V13 : View), View.le V12 V13 ∧ Fr 135 [(6, .bool z7)] a ∧ Hp w V13 [] w') ?_ ?_
     ·
      refine T.region ?_
      refine T.pure (.int .i64 r9.2) (by kernel_rfl) (fun _ => by kernel_rfl) ?_
      refine T.pure (.bool (r9.2 == 0)) (by kernel_rfl) (fun _ => by kernel_rfl) ?_
      refine T.pure (.bool (r9.2 == 0)) (by kernel_rfl) (fun _ => by kernel_rfl) ?_
      cases hg4 : (r9.2 == 0)
      ·
       skip
       rw [hg4, cond_false] at hX3
       refine T.pass (by kernel_rfl) (by kernel_rfl) ?_
       refine T.pass (by kernel_rfl) (by kernel_rfl) ?_
       refine T.pass (by kernel_rfl) (by kernel_rfl) ?_
       refine T.pure (.bool false) (by kernel_rfl) (fun _ => by kernel_rfl) ?_
       refine T.pure (.bool false) (by kernel_rfl) (fun _ => by kernel_rfl) ?_
       refine T.pass (by kernel_rfl) (by kernel_rfl) ?_
       refine T.pass (by kernel_rfl) (by kernel_rfl) ?_
       refine T.pass (by kernel_rfl) (by kernel_rfl) ?_
       refine T.pass (by kernel_rfl) (by kernel_rfl) ?_
       refine T.pass (by kernel_rfl) (by kernel_rfl) ?_
       refine T.pass (by kernel_rfl) (by kernel_rfl) ?_
       refine T.pure (.bool false) (by kernel_rfl) (fun _ => by kernel_rfl) ?_
       refine T.pure (.bool false) (by kernel_rfl) (fun _ => by kernel_rfl) ?_
       refine T.pass (by kernel_rfl) (by kernel_rfl) ?_
       refine T.pass (by kernel_rfl) (by kernel_rfl) ?_
       refine T.pass (by kernel_rfl) (by kernel_rfl) ?_
       refine T.pass (by kernel_rfl) (by kernel_rfl) ?_
       refine T.pass (by kernel_rfl) (by kernel_rfl) ?_
       refine T.pure (.bool false) (by kernel_rfl) (fun _ => by kernel_rfl) ?_
       refine T.pure (.bool false) (by kernel_rfl) (fun _ => by kernel_rfl) ?_
       refine T.nil ?_
       cases hX3
       exact fun a w' hf hh => Exists.intro V12 (And.intro (View.le_refl _) (And.intro ((Fr.nil hf).pick hf 6 rfl) (hh.sub (.cons _ (.cons _ List.Sublist.slnil)))))
      ·
       skip
       rw [hg4, cond_true] at hX3
       refine T.pure (.string r9.1) (by kernel_rfl) (fun _ => by kernel_rfl) ?_
       refine T.pure (.string z6) (by kernel_rfl) (fun _ => by kernel_rfl) ?_
       refine T.pure (.bool (seq r9.1 z6)) (by kernel_rfl) (fun _ => by kernel_rfl) ?_
       refine T.pure (.bool (seq r9.1 z6)) (by kernel_rfl) (fun _ => by kernel_rfl) ?_
       refine T.pure (.bool (seq r9.1 z6)) (by kernel_rfl) (fun _ => by kernel_rfl) ?_
       cases hg5 : (seq r9.1 z6)
       ·
        skip
        rw [hg5, cond_false] at hX3
        refine T.pass (by kernel_rfl) (by kernel_rfl) ?_
        refine T.pass (by kernel_rfl) (by kernel_rfl) ?_
        refine T.pass (by kernel_rfl) (by kernel_rfl) ?_
        refine T.pass (by kernel_rfl) (by kernel_rfl) ?_
        refine T.pass (by kernel_rfl) (by kernel_rfl) ?_
        refine T.pass (by kernel_rfl) (by kernel_rfl) ?_
        refine T.pure (.bool false) (by kernel_rfl) (fun _ => by kernel_rfl) ?_
        refine T.pure (.bool false) (by kernel_rfl) (fun _ => by kernel_rfl) ?_
        refine T.pass (by kernel_rfl) (by kernel_rfl) ?_
        refine T.pass (by kernel_rfl) (by kernel_rfl) ?_
        refine T.pass (by kernel_rfl) (by kernel_rfl) ?_
        refine T.pass (by kernel_rfl) (by kernel_rfl) ?_
        refine T.pass (by kernel_rfl) (by kernel_rfl) ?_
        refine T.pure (.bool false) (by kernel_rfl) (fun _ => by kernel_rfl) ?_
        refine T.pure (.bool false) (by kernel_rfl) (fun _ => by kernel_rfl) ?_
        refine T.nil ?_
        cases hX3
        exact fun a w' hf hh => Exists.intro V12 (And.intro (View.le_refl _) (And.intro ((Fr.nil hf).pick hf 6 rfl) (hh.sub (.cons _ (.cons _ List.Sublist.slnil)))))
       ·
        skip
        rw [hg5, cond_true] at hX3
        refine T.pure (.pointer (some ⟨b2, 17, none⟩)) (by kernel_rfl) (fun _ => by kernel_rfl) ?_
        refine T.pure (.pointer (some ⟨b2, 20, none⟩)) (by kernel_rfl) (fun _ => by kernel_rfl) ?_
        refine T.look (.int .i64 z4.x3) (by kernel_rfl) (fun w' hh => exec_load1 rfl rfl (by kernel_rfl) (hh.cellBox (i := 0) (by rfl) 20)) ?_
        refine T.pure (.slice A10 s1.length c10) (by kernel_rfl) (fun _ => by kernel_rfl) ?_
        refine T.pure (.int .i64 (s1.length : Int)) (by kernel_rfl) (fun _ => by kernel_rfl) ?_
        refine T.pure (.bool (z4.x3 == (s1.length : Int))) (by kernel_rfl) (fun _ => by kernel_rfl) ?_
        refine T.pure (.bool (z4.x3 == (s1.length : Int))) (by kernel_rfl) (fun _ => by kernel_rfl) ?_
        refine T.pure (.bool (z4.x3 == (s1.length : Int))) (by kernel_rfl) (fun _ => by kernel_rfl) ?_
        cases hg6 : (z4.x3 == (s1.length : Int))
        ·
         skip
         rw [hg6, cond_false] at hX3
         refine T.pass (by kernel_rfl) (by kernel_rfl) ?_
         refine T.pass (by kernel_rfl) (by kernel_rfl) ?_
         refine T.pass (by kernel_rfl) (by kernel_rfl) ?_
         refine T.pass (by kernel_rfl) (by kernel_rfl) ?_
         refine T.pass (by kernel_rfl) (by kernel_rfl) ?_
         refine T.pure (.bool false) (by kernel_rfl) (fun _ => by kernel_rfl) ?_
         refine T.pure (.bool false) (by kernel_rfl) (fun _ => by kernel_rfl) ?_
         refine T.nil ?_
         cases hX3
         exact fun a w' hf hh => Exists.intro V12 (And.intro (View.le_refl _) (And.intro ((Fr.nil hf).pick hf 6 rfl) (hh.sub (.cons _ (.cons _ List.Sublist.slnil)))))
        ·
         skip
         rw [hg6, cond_true] at hX3
         refine T.pure (.pointer (some ⟨b1, 0, none⟩)) (by kernel_rfl) (fun _ => by kernel_rfl) ?_
         refine T.look (.slice A9 z5.length c9) (by kernel_rfl) (fun w' hh => exec_load1 rfl rfl (by kernel_rfl) (hh.cellBox (i := 1) (by rfl) 0)) ?_
         refine T.pure (.pointer (some ⟨b2, 0, none⟩)) (by kernel_rfl) (fun _ => by kernel_rfl) ?_
         refine T.look (.slice A8 z2.length c8) (by kernel_rfl) (fun w' hh => exec_load1 rfl rfl (by kernel_rfl) (hh.cellBox (i := 0) (by rfl) 0)) ?_
         obtain ⟨r10, hb13, hX3⟩ := Option.bind_eq_some_iff.1 hX3
         refine T.step (W1.call (vSc eBool) r10 14 #[.slice A9 z5.length c9, .slice A8 z2.length c8] (by kernel_rfl) (fun _ => by kernel_rfl) (fun w' hh => slices_Equal_Elem_l F z5 z2 r10 hb13 w' A9 c9 (SlOk.mono (SlOk.mono hs9 (View.le_trans (made_le _ _) (View.le_trans hV11 hV12))) hh.view) A8 c8 (SlOk.mono (SlOk.mono hs8 (View.le_trans (made_le _ _) (View.le_trans hV11 hV12))) hh.view)) ?_)
         intro u V14 hV14 hu
         obtain rfl := sureBool _ _ _ hu
         refine T.pure (.bool r10) (by kernel_rfl) (fun _ => by kernel_rfl) ?_
         refine T.pure (.bool r10) (by kernel_rfl) (fun _ => by kernel_rfl) ?_
         refine T.nil ?_
         cases hX3
         exact fun a w' hf hh => Exists.intro V14 (And.intro hV14 (And.intro ((Fr.nil hf).pick hf 6 rfl) (hh.sub (.cons _ (.cons _ List.Sublist.slnil)))))
     ·
      rintro a w' ⟨V13, hV13, hf, hh⟩
      refine (?_ : T 135 w V13 [] [(6, .bool z7)] _) a w' hf hh
      clear hf hh
      cases hF
      refine T.ret rfl ?_
      exact T.ret1 rfl (ResIs.tmp rfl) fun w' hh => ⟨_, rfl, hh.below, (show _ from rfl)⟩

end Go.Proofs.Ytiomghobbcgkdaa
