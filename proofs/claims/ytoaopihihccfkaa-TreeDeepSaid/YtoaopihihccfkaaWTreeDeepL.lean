/- The Go functions of group WTreeDeep compute the pure functions of that group: written by walkgen.py. Condition of each: the pure function yields a result. -/
import Derived.Test.YtoaopihihccfkaaTreeL
import Derived.Test.YtoaopihihccfkaaWTreeDeepF
import Derived.Test.YtoaopihihccfkaaEqL
namespace Go.Proofs.Ytoaopihihccfkaa
set_option linter.unusedVariables false

set_option maxRecDepth 100000 in
set_option maxHeartbeats 4000000 in
theorem annalkeep_TreeDeep_l (F : Nat) (p0 : DTree) (r : Bool) (hF : annalkeep_TreeDeep F p0 = some r) (w : World) (A1 : Option Addr) (c1 : Nat) (hs1 : SlOk (vw w) eNode A1 c1 p0.nodes) :
    Calls Try.prog 3 #[.agg #[.int .i64 p0.root, .slice A1 p0.nodes.length c1]] w (Post (vSc eBool) r w) := by
 unfold annalkeep_TreeDeep at hF
 refine T.start (l := [.agg #[.int .i64 p0.root, .slice A1 p0.nodes.length c1]]) Try.func3 rfl rfl rfl ?_
 refine T.seq ?_
 refine T.region ?_
 refine T.step (W1.new 24 [.int .i64 p0.root, .slice A1 p0.nodes.length c1] (fun b => .pointer (some ⟨b, 0, none⟩)) (by kernel_rfl) (fun _ => by kernel_rfl) (fun b1 => ?_))
 refine T.pure (.bool false) (by kernel_rfl) (fun _ => by kernel_rfl) ?_
 refine T.nil ?_
 refine T.seq ?_
 refine T.seq ?_
 refine T.region ?_
 obtain ⟨r1, hb1, hF⟩ := Option.bind_eq_some_iff.1 hF
 refine T.step (W1.call (vAg eTree) r1 12 #[] (by kernel_rfl) (fun _ => by kernel_rfl) (fun w' hh => tree_New_l  r1 hb1 w' ) ?_)
 intro u V1 hV1 hu
 obtain ⟨cs1, rfl, hr1⟩ := vagg_elim hu
 obtain ⟨A2, c2, rfl, hs2⟩ := hr1
 obtain ⟨r2, hb2, hF⟩ := Option.bind_eq_some_iff.1 hF
 refine T.step (W1.call (vT2 (vSc eInt) (vSc eInt)) r2 11 #[.agg #[.int .i64 r1.root, .slice A2 r1.nodes.length c2]] (by kernel_rfl) (fun _ => by kernel_rfl) (fun w' hh => tree_Depth_l F r1 r2 hb2 w' A2 c2 (SlOk.mono (SlOk.mono hs2 (View.le_trans (made_le _ _) (View.le_refl _))) hh.view)) ?_)
 intro u V2 hV2 hu
 obtain rfl := (Sure.t2 sureInt sureInt) _ _ _ hu
 refine T.pure (.tuple #[.int .i64 r2.1, .int .i64 r2.2]) (by kernel_rfl) (fun _ => by kernel_rfl) ?_
 refine T.pure (.int .i64 r2.1) (by kernel_rfl) (fun _ => by kernel_rfl) ?_
 refine T.pure (.int .i64 r2.2) (by kernel_rfl) (fun _ => by kernel_rfl) ?_
 refine T.pure (.int .i64 r2.1) (by kernel_rfl) (fun _ => by kernel_rfl) ?_
 refine T.pure (.int .i64 r2.2) (by kernel_rfl) (fun _ => by kernel_rfl) ?_
 refine T.nil ?_
 refine T.cut (fun a w' => Fr 86 [(1, .pointer (some ⟨b1, 0, none⟩)), (21, .bool ((r2.1 != 1) || (r2.2 != 0)))] a ∧ Hp w V2 [box b1 24 [.int .i64 p0.root, .slice A1 p0.nodes.length c1]] w') ?_ ?_
 ·
  refine T.region ?_
  refine T.pure (.int .i64 r2.1) (by kernel_rfl) (fun _ => by kernel_rfl) ?_
  refine T.pure (.bool (r2.1 != 1)) (by kernel_rfl) (fun _ => by kernel_rfl) ?_
  refine T.pure (.bool (r2.1 != 1)) (by kernel_rfl) (fun _ => by kernel_rfl) ?_
  cases hg1 : (r2.1 != 1)
  ·
   skip
   refine T.pure (.int .i64 r2.2) (by kernel_rfl) (fun _ => by kernel_rfl) ?_
   refine T.pure (.bool (r2.2 != 0)) (by kernel_rfl) (fun _ => by kernel_rfl) ?_
   refine T.pure (.bool (r2.2 != 0)) (by kernel_rfl) (fun _ => by kernel_rfl) ?_
   refine T.nil ?_
   exact fun a w' hf hh => And.intro (((Fr.nil hf).pick hf 21 rfl).pick hf 1 rfl) (hh.sub (.cons_cons _ List.Sublist.slnil))
  ·
   skip
   refine T.pass (by kernel_rfl) (by kernel_rfl) ?_
   refine T.pass (by kernel_rfl) (by kernel_rfl) ?_
   refine T.pure (.bool true) (by kernel_rfl) (fun _ => by kernel_rfl) ?_
   refine T.nil ?_
   exact fun a w' hf hh => And.intro (((Fr.nil hf).pick hf 21 rfl).pick hf 1 rfl) (hh.sub (.cons_cons _ List.Sublist.slnil))
 ·
  rintro a w' ⟨hf, hh⟩
  refine (?_ : T 86 w V2 [box b1 24 [.int .i64 p0.root, .slice A1 p0.nodes.length c1]] [(1, .pointer (some ⟨b1, 0, none⟩)), (21, .bool ((r2.1 != 1) || (r2.2 != 0)))] _) a w' hf hh
  clear hf hh
  refine T.cond ((r2.1 != 1) || (r2.2 != 0)) (by kernel_rfl) (by kernel_rfl) (fun hc1 => ?_) (fun hc1 => ?_)
  ·
   rw [hc1, cond_true] at hF
   refine T.seq ?_
   refine T.region ?_
   refine T.pure (.bool false) (by kernel_rfl) (fun _ => by kernel_rfl) ?_
   refine T.nil ?_
   cases hF
   refine T.ret rfl ?_
   exact T.ret1 rfl (ResIs.tmp rfl) fun w' hh => ⟨_, rfl, hh.below, (show _ from rfl)⟩
  ·
   rw [hc1, cond_false] at hF
   refine T.skip_code ?_
   refine T.seq ?_
   refine T.region ?_
   refine T.look (.agg #[.int .i64 p0.root, .slice A1 p0.nodes.length c1]) (by kernel_rfl) (fun w' hh => exec_loadN (cs := [.int .i64 p0.root, .slice A1 p0.nodes.length c1]) rfl rfl (by kernel_rfl) (by kernel_rfl) (fun j u hj => (hh.box_at (i := 0) (cs := [.int .i64 p0.root, .slice A1 p0.nodes.length c1]) (by rfl) 0 j).trans (seg_at (n := 2) (by rfl) hj))) ?_
   obtain ⟨r3, hb3, hF⟩ := Option.bind_eq_some_iff.1 hF
   refine T.step (W1.call (vT2 (vSc (eList eElem)) (vSc eInt)) r3 13 #[.agg #[.int .i64 p0.root, .slice A1 p0.nodes.length c1]] (by kernel_rfl) (fun _ => by kernel_rfl) (fun w' hh => tree_All_l F p0 r3 hb3 w' A1 c1 (SlOk.mono (SlOk.mono hs1 (View.le_trans hV1 hV2)) hh.view)) ?_)
   intro u V3 hV3 hu
   obtain ⟨u1, u2, rfl, hu1, hu2⟩ := vT2_elim hu
   obtain ⟨A3, c3, rfl, hs3⟩ := vlist_elim hu1
   obtain rfl := sureInt _ _ _ hu2
   refine T.pure (.tuple #[.slice A3 r3.1.length c3, .int .i64 r3.2]) (by kernel_rfl) (fun _ => by kernel_rfl) ?_
   refine T.pure (.slice A3 r3.1.length c3) (by kernel_rfl) (fun _ => by kernel_rfl) ?_
   refine T.pure (.int .i64 r3.2) (by kernel_rfl) (fun _ => by kernel_rfl) ?_
   refine T.pure (.slice A3 r3.1.length c3) (by kernel_rfl) (fun _ => by kernel_rfl) ?_
   refine T.pure (.int .i64 r3.2) (by kernel_rfl) (fun _ => by kernel_rfl) ?_
   refine T.nil ?_
   refine T.seq ?_
   refine T.region ?_
   refine T.look (.agg #[.int .i64 p0.root, .slice A1 p0.nodes.length c1]) (by kernel_rfl) (fun w' hh => exec_loadN (cs := [.int .i64 p0.root, .slice A1 p0.nodes.length c1]) rfl rfl (by kernel_rfl) (by kernel_rfl) (fun j u hj => (hh.box_at (i := 0) (cs := [.int .i64 p0.root, .slice A1 p0.nodes.length c1]) (by rfl) 0 j).trans (seg_at (n := 2) (by rfl) hj))) ?_
   obtain ⟨r4, hb4, hF⟩ := Option.bind_eq_some_iff.1 hF
   refine T.step (W1.call (vT2 (vSc eInt) (vSc eInt)) r4 11 #[.agg #[.int .i64 p0.root, .slice A1 p0.nodes.length c1]] (by kernel_rfl) (fun _ => by kernel_rfl) (fun w' hh => tree_Depth_l F p0 r4 hb4 w' A1 c1 (SlOk.mono (SlOk.mono hs1 (View.le_trans (View.le_trans hV1 hV2) hV3)) hh.view)) ?_)
   intro u V4 hV4 hu
   obtain rfl := (Sure.t2 sureInt sureInt) _ _ _ hu
   refine T.pure (.tuple #[.int .i64 r4.1, .int .i64 r4.2]) (by kernel_rfl) (fun _ => by kernel_rfl) ?_
   refine T.pure (.int .i64 r4.1) (by kernel_rfl) (fun _ => by kernel_rfl) ?_
   refine T.pure (.int .i64 r4.2) (by kernel_rfl) (fun _ => by kernel_rfl) ?_
   refine T.pure (.int .i64 r4.1) (by kernel_rfl) (fun _ => by kernel_rfl) ?_
   refine T.pure (.int .i64 r4.2) (by kernel_rfl) (fun _ => by kernel_rfl) ?_
   refine T.nil ?_
   refine T.seq ?_
   refine T.seq ?_
   refine T.region ?_
   refine T.pure (.int .i64 r3.2) (by kernel_rfl) (fun _ => by kernel_rfl) ?_
   refine T.pure (.bool (r3.2 != 0)) (by kernel_rfl) (fun _ => by kernel_rfl) ?_
   refine T.nil ?_
   refine T.cond (r3.2 != 0) (by kernel_rfl) (by kernel_rfl) (fun hc2 => ?_) (fun hc2 => ?_)
   ·
    rw [hc2, cond_true] at hF
    refine T.cut (fun a w' => Fr 86 [(2, .bool ((r3.2 == r4.2) && (((r3.1.length : Int) == 0) && (r4.1 == 0))))] a ∧ Hp w V4 [] w') ?_ ?_
    ·
     refine T.region ?_
     refine T.pure (.int .i64 r3.2) (by kernel_rfl) (fun _ => by kernel_rfl) ?_
     refine T.pure (.int .i64 r4.2) (by kernel_rfl) (fun _ => by kernel_rfl) ?_
     refine T.pure (.bool (r3.2 == r4.2)) (by kernel_rfl) (fun _ => by kernel_rfl) ?_
     refine T.pure (.bool (r3.2 == r4.2)) (by kernel_rfl) (fun _ => by kernel_rfl) ?_
     cases hg2 : (r3.2 == r4.2)
     ·
      skip
      refine T.pass (by kernel_rfl) (by kernel_rfl) ?_
      refine T.pass (by kernel_rfl) (by kernel_rfl) ?_
      refine T.pass (by kernel_rfl) (by kernel_rfl) ?_
      refine T.pure (.bool false) (by kernel_rfl) (fun _ => by kernel_rfl) ?_
      refine T.pure (.bool false) (by kernel_rfl) (fun _ => by kernel_rfl) ?_
      refine T.pass (by kernel_rfl) (by kernel_rfl) ?_
      refine T.pass (by kernel_rfl) (by kernel_rfl) ?_
      refine T.pure (.bool false) (by kernel_rfl) (fun _ => by kernel_rfl) ?_
      refine T.pure (.bool false) (by kernel_rfl) (fun _ => by kernel_rfl) ?_
      refine T.nil ?_
      exact fun a w' hf hh => And.intro ((Fr.nil hf).pick hf 2 rfl) (hh.sub (.cons _ List.Sublist.slnil))
     ·
      skip
      refine T.pure (.slice A3 r3.1.length c3) (by kernel_rfl) (fun _ => by kernel_rfl) ?_
      refine T.pure (.int .i64 (r3.1.length : Int)) (by kernel_rfl) (fun _ => by kernel_rfl) ?_
      refine T.pure (.bool ((r3.1.length : Int) == 0)) (by kernel_rfl) (fun _ => by kernel_rfl) ?_
      refine T.pure (.bool ((r3.1.length : Int) == 0)) (by kernel_rfl) (fun _ => by kernel_rfl) ?_
      refine T.pure (.bool ((r3.1.length : Int) == 0)) (by kernel_rfl) (fun _ => by kernel_rfl) ?_
      cases hg3 : ((r3.1.length : Int) == 0)
      ·
       skip
       refine T.pass (by kernel_rfl) (by kernel_rfl) ?_
       refine T.pass (by kernel_rfl) (by kernel_rfl) ?_
       refine T.pure (.bool false) (by kernel_rfl) (fun _ => by kernel_rfl) ?_
       refine T.pure (.bool false) (by kernel_rfl) (fun _ => by kernel_rfl) ?_
       refine T.nil ?_
       exact fun a w' hf hh => And.intro ((Fr.nil hf).pick hf 2 rfl) (hh.sub (.cons _ List.Sublist.slnil))
      ·
       skip
       refine T.pure (.int .i64 r4.1) (by kernel_rfl) (fun _ => by kernel_rfl) ?_
       refine T.pure (.bool (r4.1 == 0)) (by kernel_rfl) (fun _ => by kernel_rfl) ?_
       refine T.pure (.bool (r4.1 == 0)) (by kernel_rfl) (fun _ => by kernel_rfl) ?_
       refine T.pure (.bool (r4.1 == 0)) (by kernel_rfl) (fun _ => by kernel_rfl) ?_
       refine T.nil ?_
       exact fun a w' hf hh => And.intro ((Fr.nil hf).pick hf 2 rfl) (hh.sub (.cons _ List.Sublist.slnil))
    ·
     rintro a w' ⟨hf, hh⟩
     refine (?_ : T 86 w V4 [] [(2, .bool ((r3.2 == r4.2) && (((r3.1.length : Int) == 0) && (r4.1 == 0))))] _) a w' hf hh
     clear hf hh
     cases hF
     refine T.ret rfl ?_
     exact T.ret1 rfl (ResIs.tmp rfl) fun w' hh => ⟨_, rfl, hh.below, (show _ from rfl)⟩
   ·
    rw [hc2, cond_false] at hF
    refine T.skip_code ?_
    refine T.seq ?_
    refine T.region ?_
    refine T.pure (.int .i64 0) (by kernel_rfl) (fun _ => by kernel_rfl) ?_
    refine T.nil ?_
    obtain ⟨z1, hX1, hF⟩ := Option.bind_eq_some_iff.1 hF
    refine T.cut (fun a w' => Fr 86 [(5, .slice A3 r3.1.length c3), (7, .int .i64 r4.1), (8, .int .i64 r4.2), (9, .int .i64 z1)] a ∧ Hp w V4 [] w') ?_ ?_
    ·
     refine T.seq ?_
     refine T.region ?_
     refine T.pure (.int .i64 r4.1) (by kernel_rfl) (fun _ => by kernel_rfl) ?_
     refine T.pure (.bool (decide ((1 : Int) < r4.1))) (by kernel_rfl) (fun _ => by kernel_rfl) ?_
     refine T.nil ?_
     refine T.cond (decide ((1 : Int) < r4.1)) (by kernel_rfl) (by kernel_rfl) (fun hc3 => ?_) (fun hc3 => ?_)
     ·
      rw [hc3, cond_true] at hX1
      refine T.seq ?_
      refine T.region ?_
      refine T.pure (.int .i64 2) (by kernel_rfl) (fun _ => by kernel_rfl) ?_
      refine T.nil ?_
      refine T.seq ?_
      refine T.region ?_
      refine T.pure (.int .i64 r4.1) (by kernel_rfl) (fun _ => by kernel_rfl) ?_
      refine T.pure (.int .i64 (IntKind.i64.wrap (r4.1 - 1))) (by kernel_rfl) (fun _ => by kernel_rfl) ?_
      refine T.pure (.int .i64 0) (by kernel_rfl) (fun _ => by kernel_rfl) ?_
      refine T.nil ?_
      obtain ⟨z2, hz1, hX1⟩ := Option.bind_eq_some_iff.1 hX1
      refine T.mid (fun a w' => Fr 86 [(5, .slice A3 r3.1.length c3), (7, .int .i64 r4.1), (8, .int .i64 r4.2), (9, .int .i64 z2)] a ∧ Hp w V4 [] w') ?_ ?_
      ·
       refine T.block ?_
       refine T.iter (fun s1 a w' => ∃ (x1 : Int) (x2 : Int), s1 = (x1, x2) ∧ Fr 86 [(5, .slice A3 r3.1.length c3), (7, .int .i64 r4.1), (8, .int .i64 r4.2), (9, .int .i64 x1), (49, .int .i64 (IntKind.i64.wrap (r4.1 - 1))), (50, .int .i64 x2)] a ∧ Hp w V4 [] w') hz1 ?_ ?_
       ·
        exact fun a w' hf hh => Exists.intro 2 (Exists.intro 0 (And.intro rfl (And.intro (((((((Fr.nil hf).pick hf 50 rfl).pick hf 49 rfl).pick hf 9 rfl).pick hf 8 rfl).pick hf 7 rfl).pick hf 5 rfl) (hh.sub (.cons _ List.Sublist.slnil)))))
       ·
        rintro s1 y1 hY1 hr2 a w' ⟨x1, x2, rfl, hf, hh⟩
        refine (?_ : T 86 w V4 [] [(5, .slice A3 r3.1.length c3), (7, .int .i64 r4.1), (8, .int .i64 r4.2), (9, .int .i64 x1), (49, .int .i64 (IntKind.i64.wrap (r4.1 - 1))), (50, .int .i64 x2)] _) a w' hf hh
        clear hf hh
        try dsimp only at hY1
        refine T.seq ?_
        refine T.region ?_
        refine T.pure (.bool (decide (x2 < (IntKind.i64.wrap (r4.1 - 1))))) (by kernel_rfl) (fun _ => by kernel_rfl) ?_
        refine T.nil ?_
        refine T.seq ?_
        refine T.cond (decide (x2 < (IntKind.i64.wrap (r4.1 - 1)))) (by kernel_rfl) (by kernel_rfl) (fun hc4 => ?_) (fun hc4 => ?_)
        ·
         rw [hc4, cond_true] at hY1
         refine T.skip_code ?_
         refine T.seq ?_
         refine T.block ?_
         refine T.region ?_
         refine T.pure (.int .i64 x1) (by kernel_rfl) (fun _ => by kernel_rfl) ?_
         refine T.pure (.int .i64 (IntKind.i64.wrap (x1 * 4))) (by kernel_rfl) (fun _ => by kernel_rfl) ?_
         refine T.pure (.int .i64 (IntKind.i64.wrap (x1 * 4))) (by kernel_rfl) (fun _ => by kernel_rfl) ?_
         refine T.nil ?_
         refine T.region ?_
         refine T.pure (.int .i64 (IntKind.i64.wrap (x2 + 1))) (by kernel_rfl) (fun _ => by kernel_rfl) ?_
         refine T.pure (.int .i64 (IntKind.i64.wrap (x2 + 1))) (by kernel_rfl) (fun _ => by kernel_rfl) ?_
         refine T.nil ?_
         cases hY1
         exact fun a w' hf hh => Exists.intro (IntKind.i64.wrap (x1 * 4), IntKind.i64.wrap (x2 + 1)) (And.intro rfl (Exists.intro (IntKind.i64.wrap (x1 * 4)) (Exists.intro (IntKind.i64.wrap (x2 + 1)) (And.intro rfl (And.intro (((((((Fr.nil hf).pick hf 50 rfl).pick hf 49 rfl).pick hf 9 rfl).pick hf 8 rfl).pick hf 7 rfl).pick hf 5 rfl) (hh.sub List.Sublist.slnil))))))
        ·
         rw [hc4, cond_false] at hY1
         refine T.exit ?_
         cases hY1
         cases (hr2 _ rfl)
         exact fun a w' hf hh => And.intro (((((Fr.nil hf).pick hf 9 rfl).pick hf 8 rfl).pick hf 7 rfl).pick hf 5 rfl) (hh.sub List.Sublist.slnil)
      ·
       rintro a w' ⟨hf, hh⟩
       refine (?_ : T 86 w V4 [] [(5, .slice A3 r3.1.length c3), (7, .int .i64 r4.1), (8, .int .i64 r4.2), (9, .int .i64 z2)] _) a w' hf hh
       clear hf hh
       cases hX1
       exact fun a w' hf hh => And.intro (((((Fr.nil hf).pick hf 9 rfl).pick hf 8 rfl).pick hf 7 rfl).pick hf 5 rfl) (hh.sub List.Sublist.slnil)
     ·
      rw [hc3, cond_false] at hX1
      refine T.skip_code ?_
      cases hX1
      exact fun a w' hf hh => And.intro (((((Fr.nil hf).pick hf 9 rfl).pick hf 8 rfl).pick hf 7 rfl).pick hf 5 rfl) (hh.sub (.cons _ List.Sublist.slnil))
    ·
     rintro a w' ⟨hf, hh⟩
     refine (?_ : T 86 w V4 [] [(5, .slice A3 r3.1.length c3), (7, .int .i64 r4.1), (8, .int .i64 r4.2), (9, .int .i64 z1)] _) a w' hf hh
     clear hf hh
     refine T.seq ?_
     refine T.seq ?_
     refine T.region ?_
     refine T.pure (.int .i64 1) (by kernel_rfl) (fun _ => by kernel_rfl) ?_
     refine T.nil ?_
     obtain ⟨q1, hz2, hF⟩ := Option.bind_eq_some_iff.1 hF
     refine T.mid (fun a w' => q1 = Sum.inl () ∧ Fr 86 [(5, .slice A3 r3.1.length c3), (7, .int .i64 r4.1), (8, .int .i64 r4.2), (9, .int .i64 z1)] a ∧ Hp w V4 [] w') ?_ ?_
     ·
      refine T.block ?_
      refine T.iter (fun x3 a w' => Fr 86 [(5, .slice A3 r3.1.length c3), (7, .int .i64 r4.1), (8, .int .i64 r4.2), (9, .int .i64 z1), (10, .int .i64 x3)] a ∧ Hp w V4 [] w') hz2 ?_ ?_
      ·
       exact fun a w' hf hh => And.intro ((((((Fr.nil hf).pick hf 10 rfl).pick hf 9 rfl).pick hf 8 rfl).pick hf 7 rfl).pick hf 5 rfl) (hh.sub List.Sublist.slnil)
      ·
       rintro x3 y2 hY2 hr3 a w' ⟨hf, hh⟩
       refine (?_ : T 86 w V4 [] [(5, .slice A3 r3.1.length c3), (7, .int .i64 r4.1), (8, .int .i64 r4.2), (9, .int .i64 z1), (10, .int .i64 x3)] _) a w' hf hh
       clear hf hh
       try dsimp only at hY2
       refine T.seq ?_
       refine T.seq ?_
       refine T.region ?_
       refine T.pure (.int .i64 x3) (by kernel_rfl) (fun _ => by kernel_rfl) ?_
       refine T.pure (.slice A3 r3.1.length c3) (by kernel_rfl) (fun _ => by kernel_rfl) ?_
       refine T.pure (.int .i64 (r3.1.length : Int)) (by kernel_rfl) (fun _ => by kernel_rfl) ?_
       refine T.pure (.bool (decide (x3 < (r3.1.length : Int)))) (by kernel_rfl) (fun _ => by kernel_rfl) ?_
       refine T.nil ?_
       refine T.cond (decide (x3 < (r3.1.length : Int))) (by kernel_rfl) (by kernel_rfl) (fun hc5 => ?_) (fun hc5 => ?_)
       ·
        rw [hc5, cond_true] at hY2
        refine T.skip_code ?_
        refine T.seq ?_
        refine T.block ?_
        refine T.seq ?_
        refine T.quiet (by kernel_rfl) (by kernel_rfl) ?_
        refine TQ.pure (.slice A3 r3.1.length c3) (by kernel_rfl) (fun _ => by kernel_rfl) ?_
        refine TQ.pure (.int .i64 x3) (by kernel_rfl) (fun _ => by kernel_rfl) ?_
        refine TQ.pure (.int .i64 (IntKind.i64.wrap (x3 - 1))) (by kernel_rfl) (fun _ => by kernel_rfl) ?_
        obtain ⟨e1, hb5, hY2⟩ := Option.bind_eq_some_iff.1 hY2
        obtain ⟨hi1, hi2, hi3⟩ := idx_some hb5
        refine TQ.look (.pointer (some ((sadr A3).add (((IntKind.i64.wrap (x3 - 1)).toNat) * 6)))) (by kernel_rfl) (fun w' hh => exec_indexAddr (e := 39) (s := 6) rfl rfl rfl (by kernel_rfl) (by kernel_rfl) hi1 hi2 ((SlOk.mono hs3 (View.le_trans (made_le _ _) hV4)).some_ hi3 (by decide))) ?_
        refine TQ.look (.agg #[.int .i64 e1.key.pfs, .int .i64 e1.key.obj, .int .i64 e1.key.off, .int .i64 e1.made, .int .i64 e1.gone, .string e1.val]) (by kernel_rfl) (fun w' hh => exec_loadN (cs := [.int .i64 e1.key.pfs, .int .i64 e1.key.obj, .int .i64 e1.key.off, .int .i64 e1.made, .int .i64 e1.gone, .string e1.val]) rfl rfl (by kernel_rfl) (by kernel_rfl) (fun j u hj => (hh.cell_view (SlOk.cellF (E := eElem) (SlOk.mono hs3 (View.le_trans (made_le _ _) hV4)) hi3 j (fun _ _ _ h => h) hj)))) ?_
        obtain ⟨r5, hb6, hY2⟩ := Option.bind_eq_some_iff.1 hY2
        refine TQ.call (vAg eSpot) r5 15 #[.agg #[.int .i64 e1.key.pfs, .int .i64 e1.key.obj, .int .i64 e1.key.off, .int .i64 e1.made, .int .i64 e1.gone, .string e1.val]] (.agg #[.int .i64 r5.key.pfs, .int .i64 r5.key.obj, .int .i64 r5.key.off, .int .i64 r5.made]) (fun V u hu => sureSpot V u _ hu) (by kernel_rfl) (fun _ => by kernel_rfl) (fun w' hh => elem_Spot_l e1 r5 hb6 w' ) ?_
        refine TQ.pure (.slice A3 r3.1.length c3) (by kernel_rfl) (fun _ => by kernel_rfl) ?_
        refine TQ.pure (.int .i64 x3) (by kernel_rfl) (fun _ => by kernel_rfl) ?_
        obtain ⟨e2, hb7, hY2⟩ := Option.bind_eq_some_iff.1 hY2
        obtain ⟨hi4, hi5, hi6⟩ := idx_some hb7
        refine TQ.look (.pointer (some ((sadr A3).add (x3.toNat * 6)))) (by kernel_rfl) (fun w' hh => exec_indexAddr (e := 39) (s := 6) rfl rfl rfl (by kernel_rfl) (by kernel_rfl) hi4 hi5 ((SlOk.mono hs3 (View.le_trans (made_le _ _) hV4)).some_ hi6 (by decide))) ?_
        refine TQ.look (.agg #[.int .i64 e2.key.pfs, .int .i64 e2.key.obj, .int .i64 e2.key.off, .int .i64 e2.made, .int .i64 e2.gone, .string e2.val]) (by kernel_rfl) (fun w' hh => exec_loadN (cs := [.int .i64 e2.key.pfs, .int .i64 e2.key.obj, .int .i64 e2.key.off, .int .i64 e2.made, .int .i64 e2.gone, .string e2.val]) rfl rfl (by kernel_rfl) (by kernel_rfl) (fun j u hj => (hh.cell_view (SlOk.cellF (E := eElem) (SlOk.mono hs3 (View.le_trans (made_le _ _) hV4)) hi6 j (fun _ _ _ h => h) hj)))) ?_
        obtain ⟨r6, hb8, hY2⟩ := Option.bind_eq_some_iff.1 hY2
        refine TQ.call (vAg eSpot) r6 15 #[.agg #[.int .i64 e2.key.pfs, .int .i64 e2.key.obj, .int .i64 e2.key.off, .int .i64 e2.made, .int .i64 e2.gone, .string e2.val]] (.agg #[.int .i64 r6.key.pfs, .int .i64 r6.key.obj, .int .i64 r6.key.off, .int .i64 r6.made]) (fun V u hu => sureSpot V u _ hu) (by kernel_rfl) (fun _ => by kernel_rfl) (fun w' hh => elem_Spot_l e2 r6 hb8 w' ) ?_
        obtain ⟨r7, hb9, hY2⟩ := Option.bind_eq_some_iff.1 hY2
        refine TQ.call (vSc eInt) r7 14 #[.agg #[.int .i64 r5.key.pfs, .int .i64 r5.key.obj, .int .i64 r5.key.off, .int .i64 r5.made], .agg #[.int .i64 r6.key.pfs, .int .i64 r6.key.obj, .int .i64 r6.key.off, .int .i64 r6.made]] (.int .i64 r7) (fun V u hu => sureInt V u _ hu) (by kernel_rfl) (fun _ => by kernel_rfl) (fun w' hh => key_CmpSpot_l r5 r6 r7 hb9 w' ) ?_
        refine TQ.pure (.bool (decide ((0 : Int) ≤ r7))) (by kernel_rfl) (fun _ => by kernel_rfl) ?_
        refine TQ.nil ?_
        refine T.cond (decide ((0 : Int) ≤ r7)) (by kernel_rfl) (by kernel_rfl) (fun hc6 => ?_) (fun hc6 => ?_)
        ·
         rw [hc6, cond_true] at hY2
         refine T.seq ?_
         refine T.region ?_
         refine T.pure (.bool false) (by kernel_rfl) (fun _ => by kernel_rfl) ?_
         refine T.nil ?_
         cases hY2
         cases (hr3 _ rfl)
         try dsimp only at hF
         cases hF
         refine T.ret rfl ?_
         exact T.ret1 rfl (ResIs.tmp rfl) fun w' hh => ⟨_, rfl, hh.below, (show _ from rfl)⟩
        ·
         rw [hc6, cond_false] at hY2
         refine T.skip_code ?_
         refine T.region ?_
         refine T.pure (.int .i64 x3) (by kernel_rfl) (fun _ => by kernel_rfl) ?_
         refine T.pure (.int .i64 (IntKind.i64.wrap (x3 + 1))) (by kernel_rfl) (fun _ => by kernel_rfl) ?_
         refine T.pure (.int .i64 (IntKind.i64.wrap (x3 + 1))) (by kernel_rfl) (fun _ => by kernel_rfl) ?_
         refine T.nil ?_
         cases hY2
         exact fun a w' hf hh => Exists.intro (IntKind.i64.wrap (x3 + 1)) (And.intro rfl (And.intro ((((((Fr.nil hf).pick hf 10 rfl).pick hf 9 rfl).pick hf 8 rfl).pick hf 7 rfl).pick hf 5 rfl) (hh.sub List.Sublist.slnil)))
       ·
        rw [hc5, cond_false] at hY2
        refine T.exit ?_
        cases hY2
        cases (hr3 _ rfl)
        exact fun a w' hf hh => And.intro rfl (And.intro (((((Fr.nil hf).pick hf 9 rfl).pick hf 8 rfl).pick hf 7 rfl).pick hf 5 rfl) (hh.sub List.Sublist.slnil))
     ·
      rintro a w' ⟨rfl, hf, hh⟩
      try dsimp only at hF
      refine (?_ : T 86 w V4 [] [(5, .slice A3 r3.1.length c3), (7, .int .i64 r4.1), (8, .int .i64 r4.2), (9, .int .i64 z1)] _) a w' hf hh
      clear hf hh
      refine T.cut (fun a w' => Fr 86 [(2, .bool ((r4.2 == 0) && ((decide ((1 : Int) ≤ r4.1)) && (decide (z1 ≤ (r3.1.length : Int))))))] a ∧ Hp w V4 [] w') ?_ ?_
      ·
       refine T.region ?_
       refine T.pure (.int .i64 r4.2) (by kernel_rfl) (fun _ => by kernel_rfl) ?_
       refine T.pure (.bool (r4.2 == 0)) (by kernel_rfl) (fun _ => by kernel_rfl) ?_
       refine T.pure (.bool (r4.2 == 0)) (by kernel_rfl) (fun _ => by kernel_rfl) ?_
       cases hg4 : (r4.2 == 0)
       ·
        skip
        refine T.pass (by kernel_rfl) (by kernel_rfl) ?_
        refine T.pass (by kernel_rfl) (by kernel_rfl) ?_
        refine T.pure (.bool false) (by kernel_rfl) (fun _ => by kernel_rfl) ?_
        refine T.pure (.bool false) (by kernel_rfl) (fun _ => by kernel_rfl) ?_
        refine T.pass (by kernel_rfl) (by kernel_rfl) ?_
        refine T.pass (by kernel_rfl) (by kernel_rfl) ?_
        refine T.pass (by kernel_rfl) (by kernel_rfl) ?_
        refine T.pass (by kernel_rfl) (by kernel_rfl) ?_
        refine T.pure (.bool false) (by kernel_rfl) (fun _ => by kernel_rfl) ?_
        refine T.pure (.bool false) (by kernel_rfl) (fun _ => by kernel_rfl) ?_
        refine T.nil ?_
        exact fun a w' hf hh => And.intro ((Fr.nil hf).pick hf 2 rfl) (hh.sub List.Sublist.slnil)
       ·
        skip
        refine T.pure (.int .i64 r4.1) (by kernel_rfl) (fun _ => by kernel_rfl) ?_
        refine T.pure (.bool (decide ((1 : Int) ≤ r4.1))) (by kernel_rfl) (fun _ => by kernel_rfl) ?_
        refine T.pure (.bool (decide ((1 : Int) ≤ r4.1))) (by kernel_rfl) (fun _ => by kernel_rfl) ?_
        refine T.pure (.bool (decide ((1 : Int) ≤ r4.1))) (by kernel_rfl) (fun _ => by kernel_rfl) ?_
        cases hg5 : decide ((1 : Int) ≤ r4.1)
        ·
         skip
         refine T.pass (by kernel_rfl) (by kernel_rfl) ?_
         refine T.pass (by kernel_rfl) (by kernel_rfl) ?_
         refine T.pass (by kernel_rfl) (by kernel_rfl) ?_
         refine T.pass (by kernel_rfl) (by kernel_rfl) ?_
         refine T.pure (.bool false) (by kernel_rfl) (fun _ => by kernel_rfl) ?_
         refine T.pure (.bool false) (by kernel_rfl) (fun _ => by kernel_rfl) ?_
         refine T.nil ?_
         exact fun a w' hf hh => And.intro ((Fr.nil hf).pick hf 2 rfl) (hh.sub List.Sublist.slnil)
        ·
         skip
         refine T.pure (.slice A3 r3.1.length c3) (by kernel_rfl) (fun _ => by kernel_rfl) ?_
         refine T.pure (.int .i64 (r3.1.length : Int)) (by kernel_rfl) (fun _ => by kernel_rfl) ?_
         refine T.pure (.int .i64 z1) (by kernel_rfl) (fun _ => by kernel_rfl) ?_
         refine T.pure (.bool (decide (z1 ≤ (r3.1.length : Int)))) (by kernel_rfl) (fun _ => by kernel_rfl) ?_
         refine T.pure (.bool (decide (z1 ≤ (r3.1.length : Int)))) (by kernel_rfl) (fun _ => by kernel_rfl) ?_
         refine T.pure (.bool (decide (z1 ≤ (r3.1.length : Int)))) (by kernel_rfl) (fun _ => by kernel_rfl) ?_
         refine T.nil ?_
         exact fun a w' hf hh => And.intro ((Fr.nil hf).pick hf 2 rfl) (hh.sub List.Sublist.slnil)
      ·
       rintro a w' ⟨hf, hh⟩
       refine (?_ : T 86 w V4 [] [(2, .bool ((r4.2 == 0) && ((decide ((1 : Int) ≤ r4.1)) && (decide (z1 ≤ (r3.1.length : Int))))))] _) a w' hf hh
       clear hf hh
       cases hF
       refine T.ret rfl ?_
       exact T.ret1 rfl (ResIs.tmp rfl) fun w' hh => ⟨_, rfl, hh.below, (show _ from rfl)⟩

end Go.Proofs.Ytoaopihihccfkaa
