/- The Go functions of group WBuildDeep compute the pure functions of that group: written by walkgen.py. Condition of each: the pure function yields a result. -/
import Derived.Test.YtoaopihihccfkaaPackL
import Derived.Test.YtoaopihihccfkaaBuildL
import Derived.Test.YtoaopihihccfkaaTreeL
import Derived.Test.YtoaopihihccfkaaEqsL
import Derived.Test.YtoaopihihccfkaaWBuildDeepF
import Derived.Test.YtoaopihihccfkaaEqL
namespace Go.Proofs.Ytoaopihihccfkaa
set_option linter.unusedVariables false

set_option maxRecDepth 100000 in
set_option maxHeartbeats 4000000 in
theorem annalkeep_BuildDeep_l (F : Nat) (p0 : (List DElem)) (r : Bool) (hF : annalkeep_BuildDeep F p0 = some r) (w : World) (A1 : Option Addr) (c1 : Nat) (hs1 : SlOk (vw w) eElem A1 c1 p0) :
    Calls Try.prog 4 #[.slice A1 p0.length c1] w (Post (vSc eBool) r w) := by
 unfold annalkeep_BuildDeep at hF
 refine T.start (l := [.slice A1 p0.length c1]) Try.func4 rfl rfl rfl ?_
 refine T.seq ?_
 refine T.region ?_
 refine T.pure (.bool false) (by kernel_rfl) (fun _ => by kernel_rfl) ?_
 refine T.nil ?_
 refine T.seq ?_
 refine T.seq ?_
 refine T.region ?_
 obtain ⟨r1, hb1, hF⟩ := Option.bind_eq_some_iff.1 hF
 refine T.step (W1.call (vAg eElem) r1 17 #[.int .i64 1, .string (ByteArray.mk #[97])] (by kernel_rfl) (fun _ => by kernel_rfl) (fun w' hh => annalkeep_at1_l 1 (ByteArray.mk #[97]) r1 hb1 w' ) ?_)
 intro u V1 hV1 hu
 obtain rfl := sureElem _ _ _ hu
 refine T.step (W1.new 39 [.int .i64 r1.key.pfs, .int .i64 r1.key.obj, .int .i64 r1.key.off, .int .i64 r1.made, .int .i64 r1.gone, .string r1.val] (fun b => .slice (some ⟨b, 0, none⟩) 1 1) (by kernel_rfl) (fun _ => by kernel_rfl) (fun b1 => ?_))
 obtain ⟨r2, hb2, hF⟩ := Option.bind_eq_some_iff.1 hF
 refine T.step (W1.call (vAg eTree) r2 16 #[.slice (some ⟨b1, 0, none⟩) 1 1] (by kernel_rfl) (fun _ => by kernel_rfl) (fun w' hh => annalkeep_of_l F [r1] r2 hb2 w' (some ⟨b1, 0, none⟩) 1 (slok_lit (E := eElem) (f := DElem.cells) [r1] (fun _ _ => rfl) (Nat.le_of_ble_eq_true (by rfl)) (fun j => hh.cellBox (i := 0) (by rfl) j))) ?_)
 intro u V2 hV2 hu
 obtain ⟨cs1, rfl, hr1⟩ := vagg_elim hu
 obtain ⟨A2, c2, rfl, hs2⟩ := hr1
 obtain ⟨r3, hb3, hF⟩ := Option.bind_eq_some_iff.1 hF
 refine T.step (W1.call (vT2 (vSc eInt) (vSc eInt)) r3 11 #[.agg #[.int .i64 r2.root, .slice A2 r2.nodes.length c2]] (by kernel_rfl) (fun _ => by kernel_rfl) (fun w' hh => tree_Depth_l F r2 r3 hb3 w' A2 c2 (SlOk.mono (SlOk.mono hs2 (View.le_trans (made_le _ _) (View.le_refl _))) hh.view)) ?_)
 intro u V3 hV3 hu
 obtain rfl := (Sure.t2 sureInt sureInt) _ _ _ hu
 refine T.pure (.tuple #[.int .i64 r3.1, .int .i64 r3.2]) (by kernel_rfl) (fun _ => by kernel_rfl) ?_
 refine T.pure (.int .i64 r3.1) (by kernel_rfl) (fun _ => by kernel_rfl) ?_
 refine T.pure (.int .i64 r3.2) (by kernel_rfl) (fun _ => by kernel_rfl) ?_
 refine T.pure (.int .i64 r3.1) (by kernel_rfl) (fun _ => by kernel_rfl) ?_
 refine T.pure (.int .i64 r3.2) (by kernel_rfl) (fun _ => by kernel_rfl) ?_
 refine T.nil ?_
 refine T.cut (fun a w' => Fr 53 [(0, .slice A1 p0.length c1), (22, .bool ((r3.1 != 1) || (r3.2 != 0)))] a ∧ Hp w V3 [] w') ?_ ?_
 ·
  refine T.region ?_
  refine T.pure (.int .i64 r3.1) (by kernel_rfl) (fun _ => by kernel_rfl) ?_
  refine T.pure (.bool (r3.1 != 1)) (by kernel_rfl) (fun _ => by kernel_rfl) ?_
  refine T.pure (.bool (r3.1 != 1)) (by kernel_rfl) (fun _ => by kernel_rfl) ?_
  cases hg1 : (r3.1 != 1)
  ·
   skip
   refine T.pure (.int .i64 r3.2) (by kernel_rfl) (fun _ => by kernel_rfl) ?_
   refine T.pure (.bool (r3.2 != 0)) (by kernel_rfl) (fun _ => by kernel_rfl) ?_
   refine T.pure (.bool (r3.2 != 0)) (by kernel_rfl) (fun _ => by kernel_rfl) ?_
   refine T.nil ?_
   exact fun a w' hf hh => And.intro (((Fr.nil hf).pick hf 22 rfl).pick hf 0 rfl) (hh.sub (.cons _ List.Sublist.slnil))
  ·
   skip
   refine T.pass (by kernel_rfl) (by kernel_rfl) ?_
   refine T.pass (by kernel_rfl) (by kernel_rfl) ?_
   refine T.pure (.bool true) (by kernel_rfl) (fun _ => by kernel_rfl) ?_
   refine T.nil ?_
   exact fun a w' hf hh => And.intro (((Fr.nil hf).pick hf 22 rfl).pick hf 0 rfl) (hh.sub (.cons _ List.Sublist.slnil))
 ·
  rintro a w' ⟨hf, hh⟩
  refine (?_ : T 53 w V3 [] [(0, .slice A1 p0.length c1), (22, .bool ((r3.1 != 1) || (r3.2 != 0)))] _) a w' hf hh
  clear hf hh
  refine T.cond ((r3.1 != 1) || (r3.2 != 0)) (by kernel_rfl) (by kernel_rfl) (fun hc1 => ?_) (fun hc1 => ?_)
  ·
   rw [hc1, cond_true] at hF
   refine T.seq ?_
   refine T.region ?_
   refine T.pure (.bool false) (by kernel_rfl) (fun _ => by kernel_rfl) ?_
   refine T.nil ?_
   cases hF
   refine T.ret rfl ?_
   exact T.ret1 rfl (ResIs.tmp rfl) fun w' hh => ⟨_, rfl, hh.below, (show _ from rfl)⟩
  ·
   rw [hc1, cond_false] at hF
   refine T.skip_code ?_
   refine T.seq ?_
   refine T.region ?_
   refine T.pure (.slice A1 p0.length c1) (by kernel_rfl) (fun _ => by kernel_rfl) ?_
   obtain ⟨r4, hb4, hF⟩ := Option.bind_eq_some_iff.1 hF
   refine T.step (W1.call (vT2 (vAg eTree) (vSc eInt)) r4 18 #[.slice A1 p0.length c1] (by kernel_rfl) (fun _ => by kernel_rfl) (fun w' hh => build_Of_l F p0 r4 hb4 w' A1 c1 (SlOk.mono (SlOk.mono hs1 (View.le_trans (View.le_trans hV1 hV2) hV3)) hh.view)) ?_)
   intro u V4 hV4 hu
   obtain ⟨u1, u2, rfl, hu1, hu2⟩ := vT2_elim hu
   obtain ⟨cs2, rfl, hr2⟩ := vagg_elim hu1
   obtain ⟨A3, c3, rfl, hs3⟩ := hr2
   obtain rfl := sureInt _ _ _ hu2
   refine T.pure (.tuple #[.agg #[.int .i64 r4.1.root, .slice A3 r4.1.nodes.length c3], .int .i64 r4.2]) (by kernel_rfl) (fun _ => by kernel_rfl) ?_
   refine T.pure (.agg #[.int .i64 r4.1.root, .slice A3 r4.1.nodes.length c3]) (by kernel_rfl) (fun _ => by kernel_rfl) ?_
   refine T.pure (.int .i64 r4.2) (by kernel_rfl) (fun _ => by kernel_rfl) ?_
   refine T.step (W1.new 24 [.int .i64 0, .slice none 0 0] (fun b => .pointer (some ⟨b, 0, none⟩)) (by kernel_rfl) (fun _ => by kernel_rfl) (fun b2 => ?_))
   refine T.step (W1.store 0 [.int .i64 r4.1.root, .slice A3 r4.1.nodes.length c3] [box b2 24 [.int .i64 r4.1.root, .slice A3 r4.1.nodes.length c3]] (by rfl) rfl (by kernel_rfl) (fun w' hw => exec_store (vs := [.int .i64 r4.1.root, .slice A3 r4.1.nodes.length c3]) rfl rfl rfl rfl (by kernel_rfl) (one_of rfl) (by simp) rfl hw) ?_)
   refine T.pure (.int .i64 r4.2) (by kernel_rfl) (fun _ => by kernel_rfl) ?_
   refine T.nil ?_
   refine T.seq ?_
   refine T.seq ?_
   refine T.region ?_
   refine T.pure (.int .i64 r4.2) (by kernel_rfl) (fun _ => by kernel_rfl) ?_
   refine T.pure (.bool (r4.2 != 0)) (by kernel_rfl) (fun _ => by kernel_rfl) ?_
   refine T.nil ?_
   refine T.cond (r4.2 != 0) (by kernel_rfl) (by kernel_rfl) (fun hc2 => ?_) (fun hc2 => ?_)
   ·
    rw [hc2, cond_true] at hF
    refine T.seq ?_
    refine T.region ?_
    refine T.look (.agg #[.int .i64 r4.1.root, .slice A3 r4.1.nodes.length c3]) (by kernel_rfl) (fun w' hh => exec_loadN (cs := [.int .i64 r4.1.root, .slice A3 r4.1.nodes.length c3]) rfl rfl (by kernel_rfl) (by kernel_rfl) (fun j u hj => (hh.box_at (i := 0) (cs := [.int .i64 r4.1.root, .slice A3 r4.1.nodes.length c3]) (by rfl) 0 j).trans (seg_at (n := 2) (by rfl) hj))) ?_
    refine T.pure (.agg #[.int .i64 0, .slice none 0 0]) (by kernel_rfl) (fun _ => by kernel_rfl) ?_
    obtain ⟨r5, hb5, hF⟩ := Option.bind_eq_some_iff.1 hF
    refine T.step (W1.call (vSc eBool) r5 19 #[.agg #[.int .i64 r4.1.root, .slice A3 r4.1.nodes.length c3], .agg #[.int .i64 0, .slice none 0 0]] (by kernel_rfl) (fun _ => by kernel_rfl) (fun w' hh => annalref_SameTree_l F r4.1 (DTree.mk 0 []) r5 hb5 w' A3 c3 (SlOk.mono (SlOk.mono hs3 (View.le_trans (made_le _ _) (View.le_refl _))) hh.view) none 0 (SlOk.nil _ _)) ?_)
    intro u V5 hV5 hu
    obtain rfl := sureBool _ _ _ hu
    refine T.pure (.bool r5) (by kernel_rfl) (fun _ => by kernel_rfl) ?_
    refine T.nil ?_
    cases hF
    refine T.ret rfl ?_
    exact T.ret1 rfl (ResIs.tmp rfl) fun w' hh => ⟨_, rfl, hh.below, (show _ from rfl)⟩
   ·
    rw [hc2, cond_false] at hF
    refine T.skip_code ?_
    refine T.seq ?_
    refine T.region ?_
    refine T.look (.agg #[.int .i64 r4.1.root, .slice A3 r4.1.nodes.length c3]) (by kernel_rfl) (fun w' hh => exec_loadN (cs := [.int .i64 r4.1.root, .slice A3 r4.1.nodes.length c3]) rfl rfl (by kernel_rfl) (by kernel_rfl) (fun j u hj => (hh.box_at (i := 0) (cs := [.int .i64 r4.1.root, .slice A3 r4.1.nodes.length c3]) (by rfl) 0 j).trans (seg_at (n := 2) (by rfl) hj))) ?_
    obtain ⟨r6, hb6, hF⟩ := Option.bind_eq_some_iff.1 hF
    refine T.step (W1.call (vT2 (vSc eInt) (vSc eInt)) r6 11 #[.agg #[.int .i64 r4.1.root, .slice A3 r4.1.nodes.length c3]] (by kernel_rfl) (fun _ => by kernel_rfl) (fun w' hh => tree_Depth_l F r4.1 r6 hb6 w' A3 c3 (SlOk.mono (SlOk.mono hs3 (View.le_trans (made_le _ _) (View.le_refl _))) hh.view)) ?_)
    intro u V6 hV6 hu
    obtain rfl := (Sure.t2 sureInt sureInt) _ _ _ hu
    refine T.pure (.tuple #[.int .i64 r6.1, .int .i64 r6.2]) (by kernel_rfl) (fun _ => by kernel_rfl) ?_
    refine T.pure (.int .i64 r6.1) (by kernel_rfl) (fun _ => by kernel_rfl) ?_
    refine T.pure (.int .i64 r6.2) (by kernel_rfl) (fun _ => by kernel_rfl) ?_
    refine T.pure (.int .i64 r6.1) (by kernel_rfl) (fun _ => by kernel_rfl) ?_
    refine T.pure (.int .i64 r6.2) (by kernel_rfl) (fun _ => by kernel_rfl) ?_
    refine T.nil ?_
    refine T.seq ?_
    refine T.region ?_
    refine T.pure (.int .i64 1) (by kernel_rfl) (fun _ => by kernel_rfl) ?_
    refine T.pure (.int .i64 8) (by kernel_rfl) (fun _ => by kernel_rfl) ?_
    refine T.nil ?_
    obtain ⟨z1, hz1, hF⟩ := Option.bind_eq_some_iff.1 hF
    refine T.cut (fun a w' => Fr 53 [(6, .int .i64 r6.2), (7, .int .i64 r6.1), (8, .int .i64 z1)] a ∧ Hp w V6 [] w') ?_ ?_
    ·
     refine T.block ?_
     refine T.iter (fun s1 a w' => ∃ (x1 : Int) (x2 : Int), s1 = (x1, x2) ∧ Fr 53 [(0, .slice A1 p0.length c1), (6, .int .i64 r6.2), (7, .int .i64 r6.1), (8, .int .i64 x1), (9, .int .i64 x2)] a ∧ Hp w V6 [] w') hz1 ?_ ?_
     ·
      exact fun a w' hf hh => Exists.intro 1 (Exists.intro 8 (And.intro rfl (And.intro ((((((Fr.nil hf).pick hf 9 rfl).pick hf 8 rfl).pick hf 7 rfl).pick hf 6 rfl).pick hf 0 rfl) (hh.sub (.cons _ List.Sublist.slnil)))))
     ·
      rintro s1 y1 hY1 hr3 a w' ⟨x1, x2, rfl, hf, hh⟩
      refine (?_ : T 53 w V6 [] [(0, .slice A1 p0.length c1), (6, .int .i64 r6.2), (7, .int .i64 r6.1), (8, .int .i64 x1), (9, .int .i64 x2)] _) a w' hf hh
      clear hf hh
      try dsimp only at hY1
      refine T.seq ?_
      refine T.seq ?_
      refine T.region ?_
      refine T.pure (.int .i64 x2) (by kernel_rfl) (fun _ => by kernel_rfl) ?_
      refine T.pure (.slice A1 p0.length c1) (by kernel_rfl) (fun _ => by kernel_rfl) ?_
      refine T.pure (.int .i64 (p0.length : Int)) (by kernel_rfl) (fun _ => by kernel_rfl) ?_
      refine T.pure (.bool (decide (x2 < (p0.length : Int)))) (by kernel_rfl) (fun _ => by kernel_rfl) ?_
      refine T.nil ?_
      refine T.cond (decide (x2 < (p0.length : Int))) (by kernel_rfl) (by kernel_rfl) (fun hc3 => ?_) (fun hc3 => ?_)
      ·
       rw [hc3, cond_true] at hY1
       refine T.skip_code ?_
       refine T.block ?_
       refine T.seq ?_
       refine T.region ?_
       refine T.pure (.int .i64 x1) (by kernel_rfl) (fun _ => by kernel_rfl) ?_
       refine T.pure (.int .i64 (IntKind.i64.wrap (x1 + 1))) (by kernel_rfl) (fun _ => by kernel_rfl) ?_
       refine T.pure (.int .i64 (IntKind.i64.wrap (x1 + 1))) (by kernel_rfl) (fun _ => by kernel_rfl) ?_
       refine T.nil ?_
       refine T.region ?_
       refine T.pure (.int .i64 x2) (by kernel_rfl) (fun _ => by kernel_rfl) ?_
       refine T.pure (.int .i64 (IntKind.i64.wrap (x2 * 8))) (by kernel_rfl) (fun _ => by kernel_rfl) ?_
       refine T.pure (.int .i64 (IntKind.i64.wrap (x2 * 8))) (by kernel_rfl) (fun _ => by kernel_rfl) ?_
       refine T.nil ?_
       cases hY1
       exact fun a w' hf hh => Exists.intro (IntKind.i64.wrap (x1 + 1), IntKind.i64.wrap (x2 * 8)) (And.intro rfl (Exists.intro (IntKind.i64.wrap (x1 + 1)) (Exists.intro (IntKind.i64.wrap (x2 * 8)) (And.intro rfl (And.intro ((((((Fr.nil hf).pick hf 9 rfl).pick hf 8 rfl).pick hf 7 rfl).pick hf 6 rfl).pick hf 0 rfl) (hh.sub List.Sublist.slnil))))))
      ·
       rw [hc3, cond_false] at hY1
       refine T.exit ?_
       cases hY1
       cases (hr3 _ rfl)
       exact fun a w' hf hh => And.intro ((((Fr.nil hf).pick hf 8 rfl).pick hf 7 rfl).pick hf 6 rfl) (hh.sub List.Sublist.slnil)
    ·
     rintro a w' ⟨hf, hh⟩
     refine (?_ : T 53 w V6 [] [(6, .int .i64 r6.2), (7, .int .i64 r6.1), (8, .int .i64 z1)] _) a w' hf hh
     clear hf hh
     refine T.cut (fun a w' => Fr 53 [(2, .bool ((r6.2 == 0) && (r6.1 == z1)))] a ∧ Hp w V6 [] w') ?_ ?_
     ·
      refine T.region ?_
      refine T.pure (.int .i64 r6.2) (by kernel_rfl) (fun _ => by kernel_rfl) ?_
      refine T.pure (.bool (r6.2 == 0)) (by kernel_rfl) (fun _ => by kernel_rfl) ?_
      refine T.pure (.bool (r6.2 == 0)) (by kernel_rfl) (fun _ => by kernel_rfl) ?_
      cases hg2 : (r6.2 == 0)
      ·
       skip
       refine T.pass (by kernel_rfl) (by kernel_rfl) ?_
       refine T.pass (by kernel_rfl) (by kernel_rfl) ?_
       refine T.pass (by kernel_rfl) (by kernel_rfl) ?_
       refine T.pure (.bool false) (by kernel_rfl) (fun _ => by kernel_rfl) ?_
       refine T.pure (.bool false) (by kernel_rfl) (fun _ => by kernel_rfl) ?_
       refine T.nil ?_
       exact fun a w' hf hh => And.intro ((Fr.nil hf).pick hf 2 rfl) (hh.sub List.Sublist.slnil)
      ·
       skip
       refine T.pure (.int .i64 r6.1) (by kernel_rfl) (fun _ => by kernel_rfl) ?_
       refine T.pure (.int .i64 z1) (by kernel_rfl) (fun _ => by kernel_rfl) ?_
       refine T.pure (.bool (r6.1 == z1)) (by kernel_rfl) (fun _ => by kernel_rfl) ?_
       refine T.pure (.bool (r6.1 == z1)) (by kernel_rfl) (fun _ => by kernel_rfl) ?_
       refine T.pure (.bool (r6.1 == z1)) (by kernel_rfl) (fun _ => by kernel_rfl) ?_
       refine T.nil ?_
       exact fun a w' hf hh => And.intro ((Fr.nil hf).pick hf 2 rfl) (hh.sub List.Sublist.slnil)
     ·
      rintro a w' ⟨hf, hh⟩
      refine (?_ : T 53 w V6 [] [(2, .bool ((r6.2 == 0) && (r6.1 == z1)))] _) a w' hf hh
      clear hf hh
      cases hF
      refine T.ret rfl ?_
      exact T.ret1 rfl (ResIs.tmp rfl) fun w' hh => ⟨_, rfl, hh.below, (show _ from rfl)⟩

end Go.Proofs.Ytoaopihihccfkaa
