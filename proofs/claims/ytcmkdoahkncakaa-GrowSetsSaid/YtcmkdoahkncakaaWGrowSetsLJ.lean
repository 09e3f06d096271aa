/- The Go functions of group WGrowSets compute the pure functions of that group: written by walkgen.py. Condition of each: the pure function yields a result. -/
import Derived.Test.YtcmkdoahkncakaaGrowSLJ
import Derived.Test.YtcmkdoahkncakaaBuildLJ
import Derived.Test.YtcmkdoahkncakaaTreeLJ
import Derived.Test.YtcmkdoahkncakaaEqsLJ
import Derived.Test.YtcmkdoahkncakaaWGrowSetsFJ
import Derived.Test.YtcmkdoahkncakaaEqLJ
namespace Go.Proofs.Ytcmkdoahkncakaa
set_option linter.unusedVariables false

set_option maxRecDepth 100000 in
set_option maxHeartbeats 4000000 in
theorem annalkeep_GrowSets_l (F : Nat) (p0 : DTree) (p1 : DElem) (p2 : Int) (r : Bool) (hF : annalkeep_GrowSets F p0 p1 p2 = some r) (w : World) (A1 : Option Addr) (c1 : Nat) (hs1 : SlOk (vw w) eNode A1 c1 p0.nodes) :
    Calls Try.prog 3 #[.agg #[.int .i64 p0.root, .slice A1 p0.nodes.length c1], .agg #[.int .i64 p1.key.pfs, .int .i64 p1.key.obj, .int .i64 p1.key.off, .int .i64 p1.made, .int .i64 p1.gone, .string p1.val], .int .i64 p2] w (Post (vSc eBool) r w) := by
 unfold annalkeep_GrowSets at hF
 refine T.start (l := [.agg #[.int .i64 p0.root, .slice A1 p0.nodes.length c1], .agg #[.int .i64 p1.key.pfs, .int .i64 p1.key.obj, .int .i64 p1.key.off, .int .i64 p1.made, .int .i64 p1.gone, .string p1.val], .int .i64 p2]) Try.func3 rfl rfl rfl ?_
 refine T.seq ?_
 refine T.region ?_
 refine T.step (W1.new 24 [.int .i64 p0.root, .slice A1 p0.nodes.length c1] (fun b => .pointer (some ⟨b, 0, none⟩)) (by kernel_rfl) (fun _ => by kernel_rfl) (fun b1 => ?_))
 refine T.step (W1.new 28 [.int .i64 p1.key.pfs, .int .i64 p1.key.obj, .int .i64 p1.key.off, .int .i64 p1.made, .int .i64 p1.gone, .string p1.val] (fun b => .pointer (some ⟨b, 0, none⟩)) (by kernel_rfl) (fun _ => by kernel_rfl) (fun b2 => ?_))
 refine T.pure (.bool false) (by kernel_rfl) (fun _ => by kernel_rfl) ?_
 refine T.nil ?_
 refine T.seq ?_
 refine T.region ?_
 obtain ⟨r1, hb1, hF⟩ := Option.bind_eq_some_iff.1 hF
 refine T.step (W1.call (vAg eElem) r1 16 #[.int .i64 1, .string (ByteArray.mk #[97])] (by kernel_rfl) (fun _ => by kernel_rfl) (fun w' hh => annalkeep_at1_l 1 (ByteArray.mk #[97]) r1 hb1 w' ) ?_)
 intro u V1 hV1 hu
 obtain rfl := sureElem _ _ _ hu
 refine T.step (W1.new 28 [.int .i64 r1.key.pfs, .int .i64 r1.key.obj, .int .i64 r1.key.off, .int .i64 r1.made, .int .i64 r1.gone, .string r1.val] (fun b => .slice (some ⟨b, 0, none⟩) 1 1) (by kernel_rfl) (fun _ => by kernel_rfl) (fun b3 => ?_))
 obtain ⟨r2, hb2, hF⟩ := Option.bind_eq_some_iff.1 hF
 refine T.step (W1.call (vAg eTree) r2 15 #[.slice (some ⟨b3, 0, none⟩) 1 1] (by kernel_rfl) (fun _ => by kernel_rfl) (fun w' hh => annalkeep_of_l F [r1] r2 hb2 w' (some ⟨b3, 0, none⟩) 1 (slok_lit (E := eElem) (f := DElem.cells) [r1] (fun _ _ => rfl) (Nat.le_of_ble_eq_true (by rfl)) (fun j => hh.cellBox (i := 0) (by rfl) j))) ?_)
 intro u V2 hV2 hu
 obtain ⟨cs1, rfl, hr1⟩ := vagg_elim hu
 obtain ⟨A2, c2, rfl, hs2⟩ := hr1
 obtain ⟨r3, hb3, hF⟩ := Option.bind_eq_some_iff.1 hF
 refine T.step (W1.call (vAg eElem) r3 16 #[.int .i64 1, .string (ByteArray.mk #[98])] (by kernel_rfl) (fun _ => by kernel_rfl) (fun w' hh => annalkeep_at1_l 1 (ByteArray.mk #[98]) r3 hb3 w' ) ?_)
 intro u V3 hV3 hu
 obtain rfl := sureElem _ _ _ hu
 obtain ⟨r4, hb4, hF⟩ := Option.bind_eq_some_iff.1 hF
 refine T.step (W1.call (vT2 (vAg eTree) (vSc eInt)) r4 14 #[.agg #[.int .i64 r2.root, .slice A2 r2.nodes.length c2], .agg #[.int .i64 r3.key.pfs, .int .i64 r3.key.obj, .int .i64 r3.key.off, .int .i64 r3.made, .int .i64 r3.gone, .string r3.val]] (by kernel_rfl) (fun _ => by kernel_rfl) (fun w' hh => grow_Set_l F r2 r3 r4 hb4 w' A2 c2 (SlOk.mono (SlOk.mono hs2 (View.le_trans (made_le _ _) hV3)) hh.view)) ?_)
 intro u V4 hV4 hu
 obtain ⟨u1, u2, rfl, hu1, hu2⟩ := vT2_elim hu
 obtain ⟨cs2, rfl, hr2⟩ := vagg_elim hu1
 obtain ⟨A3, c3, rfl, hs3⟩ := hr2
 obtain rfl := sureInt _ _ _ hu2
 refine T.pure (.tuple #[.agg #[.int .i64 r4.1.root, .slice A3 r4.1.nodes.length c3], .int .i64 r4.2]) (by kernel_rfl) (fun _ => by kernel_rfl) ?_
 refine T.pure (.agg #[.int .i64 r4.1.root, .slice A3 r4.1.nodes.length c3]) (by kernel_rfl) (fun _ => by kernel_rfl) ?_
 refine T.pure (.int .i64 r4.2) (by kernel_rfl) (fun _ => by kernel_rfl) ?_
 refine T.step (W1.new 24 [.int .i64 0, .slice none 0 0] (fun b => .pointer (some ⟨b, 0, none⟩)) (by kernel_rfl) (fun _ => by kernel_rfl) (fun b4 => ?_))
 refine T.step (W1.store 0 [.int .i64 r4.1.root, .slice A3 r4.1.nodes.length c3] [box b4 24 [.int .i64 r4.1.root, .slice A3 r4.1.nodes.length c3], box b3 28 [.int .i64 r1.key.pfs, .int .i64 r1.key.obj, .int .i64 r1.key.off, .int .i64 r1.made, .int .i64 r1.gone, .string r1.val], box b2 28 [.int .i64 p1.key.pfs, .int .i64 p1.key.obj, .int .i64 p1.key.off, .int .i64 p1.made, .int .i64 p1.gone, .string p1.val], box b1 24 [.int .i64 p0.root, .slice A1 p0.nodes.length c1]] (by rfl) rfl (by kernel_rfl) (fun w' hw => exec_store (vs := [.int .i64 r4.1.root, .slice A3 r4.1.nodes.length c3]) rfl rfl rfl rfl (by kernel_rfl) (one_of rfl) (by simp) rfl hw) ?_)
 refine T.pure (.int .i64 r4.2) (by kernel_rfl) (fun _ => by kernel_rfl) ?_
 refine T.nil ?_
 refine T.seq ?_
 refine T.seq ?_
 refine T.region ?_
 refine T.look (.agg #[.int .i64 r4.1.root, .slice A3 r4.1.nodes.length c3]) (by kernel_rfl) (fun w' hh => exec_loadN (cs := [.int .i64 r4.1.root, .slice A3 r4.1.nodes.length c3]) rfl rfl (by kernel_rfl) (by kernel_rfl) (fun j u hj => (hh.box_at (i := 0) (cs := [.int .i64 r4.1.root, .slice A3 r4.1.nodes.length c3]) (by rfl) 0 j).trans (seg_at (n := 2) (by rfl) hj))) ?_
 obtain ⟨r5, hb5, hF⟩ := Option.bind_eq_some_iff.1 hF
 refine T.step (W1.call (vT2 (vSc (eList eElem)) (vSc eInt)) r5 17 #[.agg #[.int .i64 r4.1.root, .slice A3 r4.1.nodes.length c3]] (by kernel_rfl) (fun _ => by kernel_rfl) (fun w' hh => tree_All_l F r4.1 r5 hb5 w' A3 c3 (SlOk.mono (SlOk.mono hs3 (View.le_trans (made_le _ _) (View.le_refl _))) hh.view)) ?_)
 intro u V5 hV5 hu
 obtain ⟨u3, u4, rfl, hu3, hu4⟩ := vT2_elim hu
 obtain ⟨A4, c4, rfl, hs4⟩ := vlist_elim hu3
 obtain rfl := sureInt _ _ _ hu4
 refine T.pure (.tuple #[.slice A4 r5.1.length c4, .int .i64 r5.2]) (by kernel_rfl) (fun _ => by kernel_rfl) ?_
 refine T.pure (.slice A4 r5.1.length c4) (by kernel_rfl) (fun _ => by kernel_rfl) ?_
 refine T.pure (.int .i64 r5.2) (by kernel_rfl) (fun _ => by kernel_rfl) ?_
 refine T.pure (.slice A4 r5.1.length c4) (by kernel_rfl) (fun _ => by kernel_rfl) ?_
 refine T.pure (.int .i64 r5.2) (by kernel_rfl) (fun _ => by kernel_rfl) ?_
 refine T.nil ?_
 obtain ⟨z1, hX1, hF⟩ := Option.bind_eq_some_iff.1 hF
 refine T.cut (fun a w' => ∃ (V6 : View), View.le V5 V6 ∧ Fr 161 [(2, .int .i64 p2), (3, .pointer (some ⟨b1, 0, none⟩)), (4, .pointer (some ⟨b2, 0, none⟩)), (7, .pointer (some ⟨b4, 0, none⟩)), (45, .bool z1)] a ∧ Hp w V6 [box b4 24 [.int .i64 r4.1.root, .slice A3 r4.1.nodes.length c3], box b2 28 [.int .i64 p1.key.pfs, .int .i64 p1.key.obj, .int .i64 p1.key.off, .int .i64 p1.made, .int .i64 p1.gone, .string p1.val], box b1 24 [.int .i64 p0.root, .slice A1 p0.nodes.length c1]] w') ?_ ?_
 ·
  refine T.region ?_
  refine T.pure (.int .i64 r4.2) (by kernel_rfl) (fun _ => by kernel_rfl) ?_
  refine T.pure (.bool (r4.2 != 0)) (by kernel_rfl) (fun _ => by kernel_rfl) ?_
  refine T.pure (.bool (r4.2 != 0)) (by kernel_rfl) (fun _ => by kernel_rfl) ?_
  cases hg1 : (r4.2 != 0)
  ·
   skip
   rw [hg1, cond_false] at hX1
   refine T.pure (.int .i64 r5.2) (by kernel_rfl) (fun _ => by kernel_rfl) ?_
   refine T.pure (.bool (r5.2 != 0)) (by kernel_rfl) (fun _ => by kernel_rfl) ?_
   refine T.pure (.bool (r5.2 != 0)) (by kernel_rfl) (fun _ => by kernel_rfl) ?_
   refine T.pure (.bool (r5.2 != 0)) (by kernel_rfl) (fun _ => by kernel_rfl) ?_
   cases hg2 : (r5.2 != 0)
   ·
    skip
    rw [hg2, cond_false] at hX1
    refine T.pure (.slice A4 r5.1.length c4) (by kernel_rfl) (fun _ => by kernel_rfl) ?_
    obtain ⟨r6, hb6, hX1⟩ := Option.bind_eq_some_iff.1 hX1
    refine T.step (W1.call (vAg eElem) r6 16 #[.int .i64 1, .string (ByteArray.mk #[98])] (by kernel_rfl) (fun _ => by kernel_rfl) (fun w' hh => annalkeep_at1_l 1 (ByteArray.mk #[98]) r6 hb6 w' ) ?_)
    intro u V7 hV7 hu
    obtain rfl := sureElem _ _ _ hu
    refine T.step (W1.new 28 [.int .i64 r6.key.pfs, .int .i64 r6.key.obj, .int .i64 r6.key.off, .int .i64 r6.made, .int .i64 r6.gone, .string r6.val] (fun b => .slice (some ⟨b, 0, none⟩) 1 1) (by kernel_rfl) (fun _ => by kernel_rfl) (fun b5 => ?_))
    obtain ⟨r7, hb7, hX1⟩ := Option.bind_eq_some_iff.1 hX1
    refine T.step (W1.call (vSc eBool) r7 18 #[.slice A4 r5.1.length c4, .slice (some ⟨b5, 0, none⟩) 1 1] (by kernel_rfl) (fun _ => by kernel_rfl) (fun w' hh => slices_Equal_Elem_l F r5.1 [r6] r7 hb7 w' A4 c4 (SlOk.mono (SlOk.mono hs4 (View.le_trans (made_le _ _) hV7)) hh.view) (some ⟨b5, 0, none⟩) 1 (slok_lit (E := eElem) (f := DElem.cells) [r6] (fun _ _ => rfl) (Nat.le_of_ble_eq_true (by rfl)) (fun j => hh.cellBox (i := 0) (by rfl) j))) ?_)
    intro u V8 hV8 hu
    obtain rfl := sureBool _ _ _ hu
    refine T.pure (.bool (!r7)) (by kernel_rfl) (fun _ => by kernel_rfl) ?_
    refine T.pure (.bool (!r7)) (by kernel_rfl) (fun _ => by kernel_rfl) ?_
    refine T.nil ?_
    cases hX1
    exact fun a w' hf hh => Exists.intro V8 (And.intro (View.le_trans hV7 hV8) (And.intro ((((((Fr.nil hf).pick hf 45 rfl).pick hf 7 rfl).pick hf 4 rfl).pick hf 3 rfl).pick hf 2 rfl) (hh.sub (.cons _ (.cons_cons _ (.cons _ (.cons_cons _ (.cons_cons _ List.Sublist.slnil))))))))
   ·
    skip
    rw [hg2, cond_true] at hX1
    refine T.pass (by kernel_rfl) (by kernel_rfl) ?_
    refine T.pass (by kernel_rfl) (by kernel_rfl) ?_
    refine T.pass (by kernel_rfl) (by kernel_rfl) ?_
    refine T.pass (by kernel_rfl) (by kernel_rfl) ?_
    refine T.pass (by kernel_rfl) (by kernel_rfl) ?_
    refine T.pure (.bool true) (by kernel_rfl) (fun _ => by kernel_rfl) ?_
    refine T.nil ?_
    cases hX1
    exact fun a w' hf hh => Exists.intro V5 (And.intro (View.le_refl _) (And.intro ((((((Fr.nil hf).pick hf 45 rfl).pick hf 7 rfl).pick hf 4 rfl).pick hf 3 rfl).pick hf 2 rfl) (hh.sub (.cons_cons _ (.cons _ (.cons_cons _ (.cons_cons _ List.Sublist.slnil)))))))
  ·
   skip
   rw [hg1, cond_true] at hX1
   refine T.pass (by kernel_rfl) (by kernel_rfl) ?_
   refine T.pass (by kernel_rfl) (by kernel_rfl) ?_
   refine T.pure (.bool true) (by kernel_rfl) (fun _ => by kernel_rfl) ?_
   refine T.pure (.bool true) (by kernel_rfl) (fun _ => by kernel_rfl) ?_
   refine T.pass (by kernel_rfl) (by kernel_rfl) ?_
   refine T.pass (by kernel_rfl) (by kernel_rfl) ?_
   refine T.pass (by kernel_rfl) (by kernel_rfl) ?_
   refine T.pass (by kernel_rfl) (by kernel_rfl) ?_
   refine T.pass (by kernel_rfl) (by kernel_rfl) ?_
   refine T.pure (.bool true) (by kernel_rfl) (fun _ => by kernel_rfl) ?_
   refine T.nil ?_
   cases hX1
   exact fun a w' hf hh => Exists.intro V5 (And.intro (View.le_refl _) (And.intro ((((((Fr.nil hf).pick hf 45 rfl).pick hf 7 rfl).pick hf 4 rfl).pick hf 3 rfl).pick hf 2 rfl) (hh.sub (.cons_cons _ (.cons _ (.cons_cons _ (.cons_cons _ List.Sublist.slnil)))))))
 ·
  rintro a w' ⟨V6, hV6, hf, hh⟩
  refine (?_ : T 161 w V6 [box b4 24 [.int .i64 r4.1.root, .slice A3 r4.1.nodes.length c3], box b2 28 [.int .i64 p1.key.pfs, .int .i64 p1.key.obj, .int .i64 p1.key.off, .int .i64 p1.made, .int .i64 p1.gone, .string p1.val], box b1 24 [.int .i64 p0.root, .slice A1 p0.nodes.length c1]] [(2, .int .i64 p2), (3, .pointer (some ⟨b1, 0, none⟩)), (4, .pointer (some ⟨b2, 0, none⟩)), (7, .pointer (some ⟨b4, 0, none⟩)), (45, .bool z1)] _) a w' hf hh
  clear hf hh
  refine T.cond z1 (by kernel_rfl) (by kernel_rfl) (fun hc1 => ?_) (fun hc1 => ?_)
  ·
   rw [hc1, cond_true] at hF
   refine T.seq ?_
   refine T.region ?_
   refine T.pure (.bool false) (by kernel_rfl) (fun _ => by kernel_rfl) ?_
   refine T.nil ?_
   cases hF
   refine T.ret rfl ?_
   exact T.ret1 rfl (ResIs.tmp rfl) fun w' hh => ⟨_, rfl, hh.below, (show _ from rfl)⟩
  ·
   rw [hc1, cond_false] at hF
   refine T.skip_code ?_
   refine T.seq ?_
   refine T.region ?_
   refine T.look (.agg #[.int .i64 p0.root, .slice A1 p0.nodes.length c1]) (by kernel_rfl) (fun w' hh => exec_loadN (cs := [.int .i64 p0.root, .slice A1 p0.nodes.length c1]) rfl rfl (by kernel_rfl) (by kernel_rfl) (fun j u hj => (hh.box_at (i := 2) (cs := [.int .i64 p0.root, .slice A1 p0.nodes.length c1]) (by rfl) 0 j).trans (seg_at (n := 2) (by rfl) hj))) ?_
   obtain ⟨r8, hb8, hF⟩ := Option.bind_eq_some_iff.1 hF
   refine T.step (W1.call (vT2 (vSc (eList eElem)) (vSc eInt)) r8 17 #[.agg #[.int .i64 p0.root, .slice A1 p0.nodes.length c1]] (by kernel_rfl) (fun _ => by kernel_rfl) (fun w' hh => tree_All_l F p0 r8 hb8 w' A1 c1 (SlOk.mono (SlOk.mono hs1 (View.le_trans (View.le_trans (View.le_trans (View.le_trans (View.le_trans hV1 hV2) hV3) hV4) hV5) hV6)) hh.view)) ?_)
   intro u V9 hV9 hu
   obtain ⟨u5, u6, rfl, hu5, hu6⟩ := vT2_elim hu
   obtain ⟨A5, c5, rfl, hs5⟩ := vlist_elim hu5
   obtain rfl := sureInt _ _ _ hu6
   refine T.pure (.tuple #[.slice A5 r8.1.length c5, .int .i64 r8.2]) (by kernel_rfl) (fun _ => by kernel_rfl) ?_
   refine T.pure (.slice A5 r8.1.length c5) (by kernel_rfl) (fun _ => by kernel_rfl) ?_
   refine T.pure (.int .i64 r8.2) (by kernel_rfl) (fun _ => by kernel_rfl) ?_
   refine T.pure (.slice A5 r8.1.length c5) (by kernel_rfl) (fun _ => by kernel_rfl) ?_
   refine T.pure (.int .i64 r8.2) (by kernel_rfl) (fun _ => by kernel_rfl) ?_
   refine T.nil ?_
   refine T.seq ?_
   refine T.cut (fun a w' => Fr 161 [(2, .int .i64 p2), (3, .pointer (some ⟨b1, 0, none⟩)), (4, .pointer (some ⟨b2, 0, none⟩)), (7, .pointer (some ⟨b4, 0, none⟩)), (11, .slice A5 r8.1.length c5), (57, .bool ((r8.2 != 0) || ((r8.1.length : Int) == 0)))] a ∧ Hp w V9 [box b4 24 [.int .i64 r4.1.root, .slice A3 r4.1.nodes.length c3], box b2 28 [.int .i64 p1.key.pfs, .int .i64 p1.key.obj, .int .i64 p1.key.off, .int .i64 p1.made, .int .i64 p1.gone, .string p1.val], box b1 24 [.int .i64 p0.root, .slice A1 p0.nodes.length c1]] w') ?_ ?_
   ·
    refine T.region ?_
    refine T.pure (.int .i64 r8.2) (by kernel_rfl) (fun _ => by kernel_rfl) ?_
    refine T.pure (.bool (r8.2 != 0)) (by kernel_rfl) (fun _ => by kernel_rfl) ?_
    refine T.pure (.bool (r8.2 != 0)) (by kernel_rfl) (fun _ => by kernel_rfl) ?_
    cases hg3 : (r8.2 != 0)
    ·
     skip
     refine T.pure (.slice A5 r8.1.length c5) (by kernel_rfl) (fun _ => by kernel_rfl) ?_
     refine T.pure (.int .i64 (r8.1.length : Int)) (by kernel_rfl) (fun _ => by kernel_rfl) ?_
     refine T.pure (.bool ((r8.1.length : Int) == 0)) (by kernel_rfl) (fun _ => by kernel_rfl) ?_
     refine T.pure (.bool ((r8.1.length : Int) == 0)) (by kernel_rfl) (fun _ => by kernel_rfl) ?_
     refine T.nil ?_
     exact fun a w' hf hh => And.intro (((((((Fr.nil hf).pick hf 57 rfl).pick hf 11 rfl).pick hf 7 rfl).pick hf 4 rfl).pick hf 3 rfl).pick hf 2 rfl) (hh.sub (.cons_cons _ (.cons_cons _ (.cons_cons _ List.Sublist.slnil))))
    ·
     skip
     refine T.pass (by kernel_rfl) (by kernel_rfl) ?_
     refine T.pass (by kernel_rfl) (by kernel_rfl) ?_
     refine T.pass (by kernel_rfl) (by kernel_rfl) ?_
     refine T.pure (.bool true) (by kernel_rfl) (fun _ => by kernel_rfl) ?_
     refine T.nil ?_
     exact fun a w' hf hh => And.intro (((((((Fr.nil hf).pick hf 57 rfl).pick hf 11 rfl).pick hf 7 rfl).pick hf 4 rfl).pick hf 3 rfl).pick hf 2 rfl) (hh.sub (.cons_cons _ (.cons_cons _ (.cons_cons _ List.Sublist.slnil))))
   ·
    rintro a w' ⟨hf, hh⟩
    refine (?_ : T 161 w V9 [box b4 24 [.int .i64 r4.1.root, .slice A3 r4.1.nodes.length c3], box b2 28 [.int .i64 p1.key.pfs, .int .i64 p1.key.obj, .int .i64 p1.key.off, .int .i64 p1.made, .int .i64 p1.gone, .string p1.val], box b1 24 [.int .i64 p0.root, .slice A1 p0.nodes.length c1]] [(2, .int .i64 p2), (3, .pointer (some ⟨b1, 0, none⟩)), (4, .pointer (some ⟨b2, 0, none⟩)), (7, .pointer (some ⟨b4, 0, none⟩)), (11, .slice A5 r8.1.length c5), (57, .bool ((r8.2 != 0) || ((r8.1.length : Int) == 0)))] _) a w' hf hh
    clear hf hh
    refine T.cond ((r8.2 != 0) || ((r8.1.length : Int) == 0)) (by kernel_rfl) (by kernel_rfl) (fun hc2 => ?_) (fun hc2 => ?_)
    ·
     rw [hc2, cond_true] at hF
     refine T.seq ?_
     refine T.region ?_
     refine T.pure (.bool true) (by kernel_rfl) (fun _ => by kernel_rfl) ?_
     refine T.nil ?_
     cases hF
     refine T.ret rfl ?_
     exact T.ret1 rfl (ResIs.tmp rfl) fun w' hh => ⟨_, rfl, hh.below, (show _ from rfl)⟩
    ·
     rw [hc2, cond_false] at hF
     refine T.skip_code ?_
     refine T.seq ?_
     refine T.region ?_
     refine T.pure (.slice A5 r8.1.length c5) (by kernel_rfl) (fun _ => by kernel_rfl) ?_
     refine T.pure (.int .i64 p2) (by kernel_rfl) (fun _ => by kernel_rfl) ?_
     refine T.pure (.slice A5 r8.1.length c5) (by kernel_rfl) (fun _ => by kernel_rfl) ?_
     refine T.pure (.int .i64 (r8.1.length : Int)) (by kernel_rfl) (fun _ => by kernel_rfl) ?_
     obtain ⟨r9, hb9, hF⟩ := Option.bind_eq_some_iff.1 hF
     refine T.step (W1.call (vSc eInt) r9 19 #[.int .i64 p2, .int .i64 (r8.1.length : Int)] (by kernel_rfl) (fun _ => by kernel_rfl) (fun w' hh => annalkeep_Within_l p2 (r8.1.length : Int) r9 hb9 w' ) ?_)
     intro u V10 hV10 hu
     obtain rfl := sureInt _ _ _ hu
     obtain ⟨e1, hb10, hF⟩ := Option.bind_eq_some_iff.1 hF
     obtain ⟨hi1, hi2, hi3⟩ := idx_some hb10
     refine T.look (.pointer (some ((sadr A5).add (r9.toNat * 6)))) (by kernel_rfl) (fun w' hh => exec_indexAddr (e := 28) (s := 6) rfl rfl rfl (by kernel_rfl) (by kernel_rfl) hi1 hi2 ((SlOk.mono hs5 (View.le_trans (made_le _ _) hV10)).some_ hi3 (by decide))) ?_
     refine T.look (.agg #[.int .i64 e1.key.pfs, .int .i64 e1.key.obj, .int .i64 e1.key.off, .int .i64 e1.made, .int .i64 e1.gone, .string e1.val]) (by kernel_rfl) (fun w' hh => exec_loadN (cs := [.int .i64 e1.key.pfs, .int .i64 e1.key.obj, .int .i64 e1.key.off, .int .i64 e1.made, .int .i64 e1.gone, .string e1.val]) rfl rfl (by kernel_rfl) (by kernel_rfl) (fun j u hj => (hh.cell_view (SlOk.cellF (E := eElem) (SlOk.mono hs5 (View.le_trans (made_le _ _) hV10)) hi3 j (fun _ _ _ h => h) hj)))) ?_
     refine T.step (W1.new 28 [.int .i64 0, .int .i64 0, .int .i64 0, .int .i64 0, .int .i64 0, .string (ByteArray.mk #[])] (fun b => .pointer (some ⟨b, 0, none⟩)) (by kernel_rfl) (fun _ => by kernel_rfl) (fun b6 => ?_))
     refine T.step (W1.store 0 [.int .i64 e1.key.pfs, .int .i64 e1.key.obj, .int .i64 e1.key.off, .int .i64 e1.made, .int .i64 e1.gone, .string e1.val] [box b6 28 [.int .i64 e1.key.pfs, .int .i64 e1.key.obj, .int .i64 e1.key.off, .int .i64 e1.made, .int .i64 e1.gone, .string e1.val], box b4 24 [.int .i64 r4.1.root, .slice A3 r4.1.nodes.length c3], box b2 28 [.int .i64 p1.key.pfs, .int .i64 p1.key.obj, .int .i64 p1.key.off, .int .i64 p1.made, .int .i64 p1.gone, .string p1.val], box b1 24 [.int .i64 p0.root, .slice A1 p0.nodes.length c1]] (by rfl) rfl (by kernel_rfl) (fun w' hw => exec_store (vs := [.int .i64 e1.key.pfs, .int .i64 e1.key.obj, .int .i64 e1.key.off, .int .i64 e1.made, .int .i64 e1.gone, .string e1.val]) rfl rfl rfl rfl (by kernel_rfl) (one_of rfl) (by simp) rfl hw) ?_)
     refine T.nil ?_
     refine T.seq ?_
     refine T.held [box b6 28 [.int .i64 e1.key.pfs, .int .i64 e1.key.obj, .int .i64 e1.key.off, .int .i64 e1.made, .int .i64 e1.gone, .string e1.val], box b4 24 [.int .i64 r4.1.root, .slice A3 r4.1.nodes.length c3], box b1 24 [.int .i64 p0.root, .slice A1 p0.nodes.length c1]] (by kernel_rfl) ?_
     refine TA.take 0 (.pointer (some ⟨b6, 0, none⟩)) rfl (by kernel_rfl) (by kernel_rfl) (by kernel_rfl) (fun _ _ _ h => h) (Hp.old (View.le_refl _) (View.le_trans (View.le_trans (View.le_trans (View.le_trans (View.le_trans (View.le_trans (View.le_trans hV1 hV2) hV3) hV4) hV5) hV6) hV9) hV10) (.cons_cons _ (.cons_cons _ (.cons _ (.cons_cons _ List.Sublist.slnil)))) (OldAll.box (OldAll.box (OldAll.box OldAll.nil)))) (by kernel_rfl) (fun _ _ => by kernel_rfl) ?_
     refine TA.take 1 (.agg #[.int .i64 e1.key.pfs, .int .i64 e1.key.obj, .int .i64 e1.key.off]) rfl (by kernel_rfl) (by kernel_rfl) (by kernel_rfl) (fun _ _ _ h => h) (Hp.old (View.le_refl _) (View.le_trans (View.le_trans (View.le_trans (View.le_trans (View.le_trans (View.le_trans (View.le_trans hV1 hV2) hV3) hV4) hV5) hV6) hV9) hV10) (.cons_cons _ (.cons_cons _ (.cons _ (.cons_cons _ List.Sublist.slnil)))) (OldAll.box (OldAll.box (OldAll.box OldAll.nil)))) (by kernel_rfl) (fun w' hh => exec_loadN (cs := [.int .i64 e1.key.pfs, .int .i64 e1.key.obj, .int .i64 e1.key.off]) rfl rfl (by kernel_rfl) (by kernel_rfl) (fun j u hj => (hh.box_at (i := 0) (cs := [.int .i64 e1.key.pfs, .int .i64 e1.key.obj, .int .i64 e1.key.off, .int .i64 e1.made, .int .i64 e1.gone, .string e1.val]) (by rfl) 0 j).trans (seg_at (n := 3) (by rfl) hj))) ?_
     refine TA.take 2 (.pointer (some ⟨b6, 3, none⟩)) rfl (by kernel_rfl) (by kernel_rfl) (by kernel_rfl) (fun _ _ _ h => h) (Hp.old (View.le_refl _) (View.le_trans (View.le_trans (View.le_trans (View.le_trans (View.le_trans (View.le_trans (View.le_trans hV1 hV2) hV3) hV4) hV5) hV6) hV9) hV10) (.cons_cons _ (.cons_cons _ (.cons _ (.cons_cons _ List.Sublist.slnil)))) (OldAll.box (OldAll.box (OldAll.box OldAll.nil)))) (by kernel_rfl) (fun _ _ => by kernel_rfl) ?_
     refine TA.take 3 (.int .i64 e1.made) rfl (by kernel_rfl) (by kernel_rfl) (by kernel_rfl) (fun _ _ _ h => h) (Hp.old (View.le_refl _) (View.le_trans (View.le_trans (View.le_trans (View.le_trans (View.le_trans (View.le_trans (View.le_trans hV1 hV2) hV3) hV4) hV5) hV6) hV9) hV10) (.cons_cons _ (.cons_cons _ (.cons _ (.cons_cons _ List.Sublist.slnil)))) (OldAll.box (OldAll.box (OldAll.box OldAll.nil)))) (by kernel_rfl) (fun w' hh => exec_load1 rfl rfl (by kernel_rfl) (hh.cellBox (i := 0) (by rfl) 3)) ?_
     refine TA.take 4 (.pointer (some ⟨b2, 0, none⟩)) rfl (by kernel_rfl) (by kernel_rfl) (by kernel_rfl) (fun _ _ _ h => h) (Hp.old (View.le_refl _) (View.le_trans (View.le_trans (View.le_trans (View.le_trans (View.le_trans (View.le_trans (View.le_trans hV1 hV2) hV3) hV4) hV5) hV6) hV9) hV10) (.cons_cons _ (.cons_cons _ (.cons _ (.cons_cons _ List.Sublist.slnil)))) (OldAll.box (OldAll.box (OldAll.box OldAll.nil)))) (by kernel_rfl) (fun _ _ => by kernel_rfl) ?_
     refine TA.all [5] (by kernel_rfl) rfl ⟨?_, trivial⟩
     refine TA.br rfl (W1.store 2 [.int .i64 e1.key.pfs, .int .i64 e1.key.obj, .int .i64 e1.key.off, .int .i64 p1.made, .int .i64 p1.gone, .string p1.val] [box b6 28 [.int .i64 e1.key.pfs, .int .i64 e1.key.obj, .int .i64 e1.key.off, .int .i64 e1.made, .int .i64 e1.gone, .string e1.val], box b4 24 [.int .i64 r4.1.root, .slice A3 r4.1.nodes.length c3], box b2 28 [.int .i64 e1.key.pfs, .int .i64 e1.key.obj, .int .i64 e1.key.off, .int .i64 p1.made, .int .i64 p1.gone, .string p1.val], box b1 24 [.int .i64 p0.root, .slice A1 p0.nodes.length c1]] (by rfl) rfl (by kernel_rfl) (fun w' hw => exec_store (vs := [.int .i64 e1.key.pfs, .int .i64 e1.key.obj, .int .i64 e1.key.off]) rfl rfl rfl rfl (by kernel_rfl) (one_of rfl) (by simp) rfl hw) ?_)
     refine TA.on (Hp.old (View.le_refl _) (View.le_trans (View.le_trans (View.le_trans (View.le_trans (View.le_trans (View.le_trans (View.le_trans hV1 hV2) hV3) hV4) hV5) hV6) hV9) hV10) (.cons_cons _ (.cons_cons _ (.cons _ (.cons_cons _ List.Sublist.slnil)))) (OldAll.box (OldAll.box (OldAll.box OldAll.nil)))) ?_
     refine TA.take 6 (.pointer (some ⟨b2, 3, none⟩)) rfl (by kernel_rfl) (by kernel_rfl) (by kernel_rfl) (fun _ _ _ h => h) (Hp.old (View.le_refl _) (View.le_trans (View.le_trans (View.le_trans (View.le_trans (View.le_trans (View.le_trans (View.le_trans hV1 hV2) hV3) hV4) hV5) hV6) hV9) hV10) (.cons_cons _ (.cons_cons _ (.cons _ (.cons_cons _ List.Sublist.slnil)))) (OldAll.box (OldAll.box (OldAll.box OldAll.nil)))) (by kernel_rfl) (fun _ _ => by kernel_rfl) ?_
     refine TA.all [7] (by kernel_rfl) rfl ⟨?_, trivial⟩
     refine TA.br rfl (W1.store 2 [.int .i64 e1.key.pfs, .int .i64 e1.key.obj, .int .i64 e1.key.off, .int .i64 e1.made, .int .i64 p1.gone, .string p1.val] [box b6 28 [.int .i64 e1.key.pfs, .int .i64 e1.key.obj, .int .i64 e1.key.off, .int .i64 e1.made, .int .i64 e1.gone, .string e1.val], box b4 24 [.int .i64 r4.1.root, .slice A3 r4.1.nodes.length c3], box b2 28 [.int .i64 e1.key.pfs, .int .i64 e1.key.obj, .int .i64 e1.key.off, .int .i64 e1.made, .int .i64 p1.gone, .string p1.val], box b1 24 [.int .i64 p0.root, .slice A1 p0.nodes.length c1]] (by rfl) rfl (by kernel_rfl) (fun w' hw => exec_store (vs := [.int .i64 e1.made]) rfl rfl rfl rfl (by kernel_rfl) (one_of rfl) (by simp) rfl hw) ?_)
     refine TA.on (Hp.old (View.le_refl _) (View.le_trans (View.le_trans (View.le_trans (View.le_trans (View.le_trans (View.le_trans (View.le_trans hV1 hV2) hV3) hV4) hV5) hV6) hV9) hV10) (.cons_cons _ (.cons_cons _ (.cons _ (.cons_cons _ List.Sublist.slnil)))) (OldAll.box (OldAll.box (OldAll.box OldAll.nil)))) ?_
     refine TA.done (by kernel_rfl) ?_
     refine T.seq ?_
     refine T.region ?_
     refine T.look (.agg #[.int .i64 p0.root, .slice A1 p0.nodes.length c1]) (by kernel_rfl) (fun w' hh => exec_loadN (cs := [.int .i64 p0.root, .slice A1 p0.nodes.length c1]) rfl rfl (by kernel_rfl) (by kernel_rfl) (fun j u hj => (hh.box_at (i := 3) (cs := [.int .i64 p0.root, .slice A1 p0.nodes.length c1]) (by rfl) 0 j).trans (seg_at (n := 2) (by rfl) hj))) ?_
     refine T.look (.agg #[.int .i64 e1.key.pfs, .int .i64 e1.key.obj, .int .i64 e1.key.off, .int .i64 e1.made, .int .i64 p1.gone, .string p1.val]) (by kernel_rfl) (fun w' hh => exec_loadN (cs := [.int .i64 e1.key.pfs, .int .i64 e1.key.obj, .int .i64 e1.key.off, .int .i64 e1.made, .int .i64 p1.gone, .string p1.val]) rfl rfl (by kernel_rfl) (by kernel_rfl) (fun j u hj => (hh.box_at (i := 2) (cs := [.int .i64 e1.key.pfs, .int .i64 e1.key.obj, .int .i64 e1.key.off, .int .i64 e1.made, .int .i64 p1.gone, .string p1.val]) (by rfl) 0 j).trans (seg_at (n := 6) (by rfl) hj))) ?_
     obtain ⟨r10, hb11, hF⟩ := Option.bind_eq_some_iff.1 hF
     refine T.step (W1.call (vT2 (vAg eTree) (vSc eInt)) r10 14 #[.agg #[.int .i64 p0.root, .slice A1 p0.nodes.length c1], .agg #[.int .i64 e1.key.pfs, .int .i64 e1.key.obj, .int .i64 e1.key.off, .int .i64 e1.made, .int .i64 p1.gone, .string p1.val]] (by kernel_rfl) (fun _ => by kernel_rfl) (fun w' hh => grow_Set_l F p0 (DElem.mk e1.key e1.made p1.gone p1.val) r10 hb11 w' A1 c1 (SlOk.mono (SlOk.mono hs1 (View.le_trans (View.le_trans (View.le_trans (View.le_trans (View.le_trans (View.le_trans (View.le_trans hV1 hV2) hV3) hV4) hV5) hV6) hV9) hV10)) hh.view)) ?_)
     intro u V11 hV11 hu
     obtain ⟨u7, u8, rfl, hu7, hu8⟩ := vT2_elim hu
     obtain ⟨cs3, rfl, hr3⟩ := vagg_elim hu7
     obtain ⟨A6, c6, rfl, hs6⟩ := hr3
     obtain rfl := sureInt _ _ _ hu8
     refine T.pure (.tuple #[.agg #[.int .i64 r10.1.root, .slice A6 r10.1.nodes.length c6], .int .i64 r10.2]) (by kernel_rfl) (fun _ => by kernel_rfl) ?_
     refine T.pure (.agg #[.int .i64 r10.1.root, .slice A6 r10.1.nodes.length c6]) (by kernel_rfl) (fun _ => by kernel_rfl) ?_
     refine T.pure (.int .i64 r10.2) (by kernel_rfl) (fun _ => by kernel_rfl) ?_
     refine T.step (W1.store 1 [.int .i64 r10.1.root, .slice A6 r10.1.nodes.length c6] [box b6 28 [.int .i64 e1.key.pfs, .int .i64 e1.key.obj, .int .i64 e1.key.off, .int .i64 e1.made, .int .i64 e1.gone, .string e1.val], box b4 24 [.int .i64 r10.1.root, .slice A6 r10.1.nodes.length c6], box b2 28 [.int .i64 e1.key.pfs, .int .i64 e1.key.obj, .int .i64 e1.key.off, .int .i64 e1.made, .int .i64 p1.gone, .string p1.val], box b1 24 [.int .i64 p0.root, .slice A1 p0.nodes.length c1]] (by rfl) rfl (by kernel_rfl) (fun w' hw => exec_store (vs := [.int .i64 r10.1.root, .slice A6 r10.1.nodes.length c6]) rfl rfl rfl rfl (by kernel_rfl) (one_of rfl) (by simp) rfl hw) ?_)
     refine T.pure (.int .i64 r10.2) (by kernel_rfl) (fun _ => by kernel_rfl) ?_
     refine T.nil ?_
     refine T.seq ?_
     refine T.seq ?_
     refine T.region ?_
     refine T.pure (.int .i64 r10.2) (by kernel_rfl) (fun _ => by kernel_rfl) ?_
     refine T.pure (.bool (r10.2 != 0)) (by kernel_rfl) (fun _ => by kernel_rfl) ?_
     refine T.nil ?_
     refine T.cond (r10.2 != 0) (by kernel_rfl) (by kernel_rfl) (fun hc3 => ?_) (fun hc3 => ?_)
     ·
      rw [hc3, cond_true] at hF
      refine T.seq ?_
      refine T.region ?_
      refine T.pure (.int .i64 r10.2) (by kernel_rfl) (fun _ => by kernel_rfl) ?_
      refine T.look (.agg #[.int .i64 e1.key.pfs, .int .i64 e1.key.obj, .int .i64 e1.key.off, .int .i64 e1.made, .int .i64 p1.gone, .string p1.val]) (by kernel_rfl) (fun w' hh => exec_loadN (cs := [.int .i64 e1.key.pfs, .int .i64 e1.key.obj, .int .i64 e1.key.off, .int .i64 e1.made, .int .i64 p1.gone, .string p1.val]) rfl rfl (by kernel_rfl) (by kernel_rfl) (fun j u hj => (hh.box_at (i := 2) (cs := [.int .i64 e1.key.pfs, .int .i64 e1.key.obj, .int .i64 e1.key.off, .int .i64 e1.made, .int .i64 p1.gone, .string p1.val]) (by rfl) 0 j).trans (seg_at (n := 6) (by rfl) hj))) ?_
      obtain ⟨r11, hb12, hF⟩ := Option.bind_eq_some_iff.1 hF
      refine T.step (W1.call (vSc eInt) r11 20 #[.agg #[.int .i64 e1.key.pfs, .int .i64 e1.key.obj, .int .i64 e1.key.off, .int .i64 e1.made, .int .i64 p1.gone, .string p1.val]] (by kernel_rfl) (fun _ => by kernel_rfl) (fun w' hh => elem_Check_l (DElem.mk e1.key e1.made p1.gone p1.val) r11 hb12 w' ) ?_)
      intro u V12 hV12 hu
      obtain rfl := sureInt _ _ _ hu
      refine T.pure (.bool (r10.2 == r11)) (by kernel_rfl) (fun _ => by kernel_rfl) ?_
      refine T.pure (.bool (r10.2 == r11)) (by kernel_rfl) (fun _ => by kernel_rfl) ?_
      refine T.nil ?_
      cases hF
      refine T.ret rfl ?_
      exact T.ret1 rfl (ResIs.tmp rfl) fun w' hh => ⟨_, rfl, hh.below, (show _ from rfl)⟩
     ·
      rw [hc3, cond_false] at hF
      refine T.skip_code ?_
      refine T.seq ?_
      refine T.region ?_
      refine T.look (.agg #[.int .i64 r10.1.root, .slice A6 r10.1.nodes.length c6]) (by kernel_rfl) (fun w' hh => exec_loadN (cs := [.int .i64 r10.1.root, .slice A6 r10.1.nodes.length c6]) rfl rfl (by kernel_rfl) (by kernel_rfl) (fun j u hj => (hh.box_at (i := 1) (cs := [.int .i64 r10.1.root, .slice A6 r10.1.nodes.length c6]) (by rfl) 0 j).trans (seg_at (n := 2) (by rfl) hj))) ?_
      refine T.look (.agg #[.int .i64 e1.key.pfs, .int .i64 e1.key.obj, .int .i64 e1.key.off, .int .i64 e1.made, .int .i64 e1.gone, .string e1.val]) (by kernel_rfl) (fun w' hh => exec_loadN (cs := [.int .i64 e1.key.pfs, .int .i64 e1.key.obj, .int .i64 e1.key.off, .int .i64 e1.made, .int .i64 e1.gone, .string e1.val]) rfl rfl (by kernel_rfl) (by kernel_rfl) (fun j u hj => (hh.box_at (i := 0) (cs := [.int .i64 e1.key.pfs, .int .i64 e1.key.obj, .int .i64 e1.key.off, .int .i64 e1.made, .int .i64 e1.gone, .string e1.val]) (by rfl) 0 j).trans (seg_at (n := 6) (by rfl) hj))) ?_
      obtain ⟨r12, hb13, hF⟩ := Option.bind_eq_some_iff.1 hF
      refine T.step (W1.call (vT2 (vAg eTree) (vSc eInt)) r12 14 #[.agg #[.int .i64 r10.1.root, .slice A6 r10.1.nodes.length c6], .agg #[.int .i64 e1.key.pfs, .int .i64 e1.key.obj, .int .i64 e1.key.off, .int .i64 e1.made, .int .i64 e1.gone, .string e1.val]] (by kernel_rfl) (fun _ => by kernel_rfl) (fun w' hh => grow_Set_l F r10.1 e1 r12 hb13 w' A6 c6 (SlOk.mono (SlOk.mono hs6 (View.le_trans (made_le _ _) (View.le_refl _))) hh.view)) ?_)
      intro u V13 hV13 hu
      obtain ⟨u9, u10, rfl, hu9, hu10⟩ := vT2_elim hu
      obtain ⟨cs4, rfl, hr4⟩ := vagg_elim hu9
      obtain ⟨A7, c7, rfl, hs7⟩ := hr4
      obtain rfl := sureInt _ _ _ hu10
      refine T.pure (.tuple #[.agg #[.int .i64 r12.1.root, .slice A7 r12.1.nodes.length c7], .int .i64 r12.2]) (by kernel_rfl) (fun _ => by kernel_rfl) ?_
      refine T.pure (.agg #[.int .i64 r12.1.root, .slice A7 r12.1.nodes.length c7]) (by kernel_rfl) (fun _ => by kernel_rfl) ?_
      refine T.pure (.int .i64 r12.2) (by kernel_rfl) (fun _ => by kernel_rfl) ?_
      refine T.step (W1.new 24 [.int .i64 0, .slice none 0 0] (fun b => .pointer (some ⟨b, 0, none⟩)) (by kernel_rfl) (fun _ => by kernel_rfl) (fun b7 => ?_))
      refine T.step (W1.store 0 [.int .i64 r12.1.root, .slice A7 r12.1.nodes.length c7] [box b7 24 [.int .i64 r12.1.root, .slice A7 r12.1.nodes.length c7], box b6 28 [.int .i64 e1.key.pfs, .int .i64 e1.key.obj, .int .i64 e1.key.off, .int .i64 e1.made, .int .i64 e1.gone, .string e1.val], box b4 24 [.int .i64 r10.1.root, .slice A6 r10.1.nodes.length c6], box b2 28 [.int .i64 e1.key.pfs, .int .i64 e1.key.obj, .int .i64 e1.key.off, .int .i64 e1.made, .int .i64 p1.gone, .string p1.val], box b1 24 [.int .i64 p0.root, .slice A1 p0.nodes.length c1]] (by rfl) rfl (by kernel_rfl) (fun w' hw => exec_store (vs := [.int .i64 r12.1.root, .slice A7 r12.1.nodes.length c7]) rfl rfl rfl rfl (by kernel_rfl) (one_of rfl) (by simp) rfl hw) ?_)
      refine T.pure (.int .i64 r12.2) (by kernel_rfl) (fun _ => by kernel_rfl) ?_
      refine T.nil ?_
      refine T.seq ?_
      refine T.region ?_
      refine T.look (.agg #[.int .i64 r10.1.root, .slice A6 r10.1.nodes.length c6]) (by kernel_rfl) (fun w' hh => exec_loadN (cs := [.int .i64 r10.1.root, .slice A6 r10.1.nodes.length c6]) rfl rfl (by kernel_rfl) (by kernel_rfl) (fun j u hj => (hh.box_at (i := 2) (cs := [.int .i64 r10.1.root, .slice A6 r10.1.nodes.length c6]) (by rfl) 0 j).trans (seg_at (n := 2) (by rfl) hj))) ?_
      obtain ⟨r13, hb14, hF⟩ := Option.bind_eq_some_iff.1 hF
      refine T.step (W1.call (vT2 (vSc (eList eElem)) (vSc eInt)) r13 17 #[.agg #[.int .i64 r10.1.root, .slice A6 r10.1.nodes.length c6]] (by kernel_rfl) (fun _ => by kernel_rfl) (fun w' hh => tree_All_l F r10.1 r13 hb14 w' A6 c6 (SlOk.mono (SlOk.mono hs6 (View.le_trans (made_le _ _) hV13)) hh.view)) ?_)
      intro u V14 hV14 hu
      obtain ⟨u11, u12, rfl, hu11, hu12⟩ := vT2_elim hu
      obtain ⟨A8, c8, rfl, hs8⟩ := vlist_elim hu11
      obtain rfl := sureInt _ _ _ hu12
      refine T.pure (.tuple #[.slice A8 r13.1.length c8, .int .i64 r13.2]) (by kernel_rfl) (fun _ => by kernel_rfl) ?_
      refine T.pure (.slice A8 r13.1.length c8) (by kernel_rfl) (fun _ => by kernel_rfl) ?_
      refine T.pure (.int .i64 r13.2) (by kernel_rfl) (fun _ => by kernel_rfl) ?_
      refine T.pure (.slice A8 r13.1.length c8) (by kernel_rfl) (fun _ => by kernel_rfl) ?_
      refine T.pure (.int .i64 r13.2) (by kernel_rfl) (fun _ => by kernel_rfl) ?_
      refine T.nil ?_
      refine T.seq ?_
      refine T.region ?_
      refine T.look (.agg #[.int .i64 r12.1.root, .slice A7 r12.1.nodes.length c7]) (by kernel_rfl) (fun w' hh => exec_loadN (cs := [.int .i64 r12.1.root, .slice A7 r12.1.nodes.length c7]) rfl rfl (by kernel_rfl) (by kernel_rfl) (fun j u hj => (hh.box_at (i := 0) (cs := [.int .i64 r12.1.root, .slice A7 r12.1.nodes.length c7]) (by rfl) 0 j).trans (seg_at (n := 2) (by rfl) hj))) ?_
      obtain ⟨r14, hb15, hF⟩ := Option.bind_eq_some_iff.1 hF
      refine T.step (W1.call (vT2 (vSc (eList eElem)) (vSc eInt)) r14 17 #[.agg #[.int .i64 r12.1.root, .slice A7 r12.1.nodes.length c7]] (by kernel_rfl) (fun _ => by kernel_rfl) (fun w' hh => tree_All_l F r12.1 r14 hb15 w' A7 c7 (SlOk.mono (SlOk.mono hs7 (View.le_trans (made_le _ _) hV14)) hh.view)) ?_)
      intro u V15 hV15 hu
      obtain ⟨u13, u14, rfl, hu13, hu14⟩ := vT2_elim hu
      obtain ⟨A9, c9, rfl, hs9⟩ := vlist_elim hu13
      obtain rfl := sureInt _ _ _ hu14
      refine T.pure (.tuple #[.slice A9 r14.1.length c9, .int .i64 r14.2]) (by kernel_rfl) (fun _ => by kernel_rfl) ?_
      refine T.pure (.slice A9 r14.1.length c9) (by kernel_rfl) (fun _ => by kernel_rfl) ?_
      refine T.pure (.int .i64 r14.2) (by kernel_rfl) (fun _ => by kernel_rfl) ?_
      refine T.pure (.slice A9 r14.1.length c9) (by kernel_rfl) (fun _ => by kernel_rfl) ?_
      refine T.pure (.int .i64 r14.2) (by kernel_rfl) (fun _ => by kernel_rfl) ?_
      refine T.nil ?_
      refine T.seq ?_
      obtain ⟨z2, hX2, hF⟩ := Option.bind_eq_some_iff.1 hF
      refine T.cut (fun a w' => ∃ (V16 : View), View.le V15 V16 ∧ Fr 161 [(4, .pointer (some ⟨b2, 0, none⟩)), (11, .slice A5 r8.1.length c5), (12, .pointer (some ⟨b6, 0, none⟩)), (15, .slice A8 r13.1.length c8), (121, .bool z2)] a ∧ Hp w V16 [box b6 28 [.int .i64 e1.key.pfs, .int .i64 e1.key.obj, .int .i64 e1.key.off, .int .i64 e1.made, .int .i64 e1.gone, .string e1.val], box b2 28 [.int .i64 e1.key.pfs, .int .i64 e1.key.obj, .int .i64 e1.key.off, .int .i64 e1.made, .int .i64 p1.gone, .string p1.val]] w') ?_ ?_
      ·
       refine T.region ?_
       refine T.pure (.int .i64 r12.2) (by kernel_rfl) (fun _ => by kernel_rfl) ?_
       refine T.pure (.bool (r12.2 != 0)) (by kernel_rfl) (fun _ => by kernel_rfl) ?_
       refine T.pure (.bool (r12.2 != 0)) (by kernel_rfl) (fun _ => by kernel_rfl) ?_
       cases hg4 : (r12.2 != 0)
       ·
        skip
        rw [hg4, cond_false] at hX2
        refine T.pure (.int .i64 r13.2) (by kernel_rfl) (fun _ => by kernel_rfl) ?_
        refine T.pure (.bool (r13.2 != 0)) (by kernel_rfl) (fun _ => by kernel_rfl) ?_
        refine T.pure (.bool (r13.2 != 0)) (by kernel_rfl) (fun _ => by kernel_rfl) ?_
        refine T.pure (.bool (r13.2 != 0)) (by kernel_rfl) (fun _ => by kernel_rfl) ?_
        cases hg5 : (r13.2 != 0)
        ·
         skip
         rw [hg5, cond_false] at hX2
         refine T.pure (.int .i64 r14.2) (by kernel_rfl) (fun _ => by kernel_rfl) ?_
         refine T.pure (.bool (r14.2 != 0)) (by kernel_rfl) (fun _ => by kernel_rfl) ?_
         refine T.pure (.bool (r14.2 != 0)) (by kernel_rfl) (fun _ => by kernel_rfl) ?_
         refine T.pure (.bool (r14.2 != 0)) (by kernel_rfl) (fun _ => by kernel_rfl) ?_
         cases hg6 : (r14.2 != 0)
         ·
          skip
          rw [hg6, cond_false] at hX2
          refine T.pure (.slice A9 r14.1.length c9) (by kernel_rfl) (fun _ => by kernel_rfl) ?_
          refine T.pure (.slice A5 r8.1.length c5) (by kernel_rfl) (fun _ => by kernel_rfl) ?_
          obtain ⟨r15, hb16, hX2⟩ := Option.bind_eq_some_iff.1 hX2
          refine T.step (W1.call (vSc eBool) r15 18 #[.slice A9 r14.1.length c9, .slice A5 r8.1.length c5] (by kernel_rfl) (fun _ => by kernel_rfl) (fun w' hh => slices_Equal_Elem_l F r14.1 r8.1 r15 hb16 w' A9 c9 (SlOk.mono (SlOk.mono hs9 (View.le_trans (made_le _ _) (View.le_refl _))) hh.view) A5 c5 (SlOk.mono (SlOk.mono hs5 (View.le_trans (made_le _ _) (View.le_trans (View.le_trans (View.le_trans (View.le_trans hV10 hV11) hV13) hV14) hV15))) hh.view)) ?_)
          intro u V17 hV17 hu
          obtain rfl := sureBool _ _ _ hu
          refine T.pure (.bool (!r15)) (by kernel_rfl) (fun _ => by kernel_rfl) ?_
          refine T.pure (.bool (!r15)) (by kernel_rfl) (fun _ => by kernel_rfl) ?_
          refine T.pure (.bool (!r15)) (by kernel_rfl) (fun _ => by kernel_rfl) ?_
          cases hg7 : (!r15)
          ·
           skip
           rw [hg7, cond_false] at hX2
           refine T.pure (.slice A8 r13.1.length c8) (by kernel_rfl) (fun _ => by kernel_rfl) ?_
           refine T.pure (.int .i64 (r13.1.length : Int)) (by kernel_rfl) (fun _ => by kernel_rfl) ?_
           refine T.pure (.slice A5 r8.1.length c5) (by kernel_rfl) (fun _ => by kernel_rfl) ?_
           refine T.pure (.int .i64 (r8.1.length : Int)) (by kernel_rfl) (fun _ => by kernel_rfl) ?_
           refine T.pure (.bool ((r13.1.length : Int) != (r8.1.length : Int))) (by kernel_rfl) (fun _ => by kernel_rfl) ?_
           refine T.pure (.bool ((r13.1.length : Int) != (r8.1.length : Int))) (by kernel_rfl) (fun _ => by kernel_rfl) ?_
           refine T.nil ?_
           cases hX2
           exact fun a w' hf hh => Exists.intro V17 (And.intro hV17 (And.intro ((((((Fr.nil hf).pick hf 121 rfl).pick hf 15 rfl).pick hf 12 rfl).pick hf 11 rfl).pick hf 4 rfl) (hh.sub (.cons _ (.cons_cons _ (.cons _ (.cons_cons _ (.cons _ List.Sublist.slnil))))))))
          ·
           skip
           rw [hg7, cond_true] at hX2
           refine T.pass (by kernel_rfl) (by kernel_rfl) ?_
           refine T.pass (by kernel_rfl) (by kernel_rfl) ?_
           refine T.pass (by kernel_rfl) (by kernel_rfl) ?_
           refine T.pass (by kernel_rfl) (by kernel_rfl) ?_
           refine T.pass (by kernel_rfl) (by kernel_rfl) ?_
           refine T.pure (.bool true) (by kernel_rfl) (fun _ => by kernel_rfl) ?_
           refine T.nil ?_
           cases hX2
           exact fun a w' hf hh => Exists.intro V17 (And.intro hV17 (And.intro ((((((Fr.nil hf).pick hf 121 rfl).pick hf 15 rfl).pick hf 12 rfl).pick hf 11 rfl).pick hf 4 rfl) (hh.sub (.cons _ (.cons_cons _ (.cons _ (.cons_cons _ (.cons _ List.Sublist.slnil))))))))
         ·
          skip
          rw [hg6, cond_true] at hX2
          refine T.pass (by kernel_rfl) (by kernel_rfl) ?_
          refine T.pass (by kernel_rfl) (by kernel_rfl) ?_
          refine T.pass (by kernel_rfl) (by kernel_rfl) ?_
          refine T.pass (by kernel_rfl) (by kernel_rfl) ?_
          refine T.pure (.bool true) (by kernel_rfl) (fun _ => by kernel_rfl) ?_
          refine T.pure (.bool true) (by kernel_rfl) (fun _ => by kernel_rfl) ?_
          refine T.pass (by kernel_rfl) (by kernel_rfl) ?_
          refine T.pass (by kernel_rfl) (by kernel_rfl) ?_
          refine T.pass (by kernel_rfl) (by kernel_rfl) ?_
          refine T.pass (by kernel_rfl) (by kernel_rfl) ?_
          refine T.pass (by kernel_rfl) (by kernel_rfl) ?_
          refine T.pure (.bool true) (by kernel_rfl) (fun _ => by kernel_rfl) ?_
          refine T.nil ?_
          cases hX2
          exact fun a w' hf hh => Exists.intro V15 (And.intro (View.le_refl _) (And.intro ((((((Fr.nil hf).pick hf 121 rfl).pick hf 15 rfl).pick hf 12 rfl).pick hf 11 rfl).pick hf 4 rfl) (hh.sub (.cons _ (.cons_cons _ (.cons _ (.cons_cons _ (.cons _ List.Sublist.slnil))))))))
        ·
         skip
         rw [hg5, cond_true] at hX2
         refine T.pass (by kernel_rfl) (by kernel_rfl) ?_
         refine T.pass (by kernel_rfl) (by kernel_rfl) ?_
         refine T.pure (.bool true) (by kernel_rfl) (fun _ => by kernel_rfl) ?_
         refine T.pure (.bool true) (by kernel_rfl) (fun _ => by kernel_rfl) ?_
         refine T.pass (by kernel_rfl) (by kernel_rfl) ?_
         refine T.pass (by kernel_rfl) (by kernel_rfl) ?_
         refine T.pass (by kernel_rfl) (by kernel_rfl) ?_
         refine T.pass (by kernel_rfl) (by kernel_rfl) ?_
         refine T.pure (.bool true) (by kernel_rfl) (fun _ => by kernel_rfl) ?_
         refine T.pure (.bool true) (by kernel_rfl) (fun _ => by kernel_rfl) ?_
         refine T.pass (by kernel_rfl) (by kernel_rfl) ?_
         refine T.pass (by kernel_rfl) (by kernel_rfl) ?_
         refine T.pass (by kernel_rfl) (by kernel_rfl) ?_
         refine T.pass (by kernel_rfl) (by kernel_rfl) ?_
         refine T.pass (by kernel_rfl) (by kernel_rfl) ?_
         refine T.pure (.bool true) (by kernel_rfl) (fun _ => by kernel_rfl) ?_
         refine T.nil ?_
         cases hX2
         exact fun a w' hf hh => Exists.intro V15 (And.intro (View.le_refl _) (And.intro ((((((Fr.nil hf).pick hf 121 rfl).pick hf 15 rfl).pick hf 12 rfl).pick hf 11 rfl).pick hf 4 rfl) (hh.sub (.cons _ (.cons_cons _ (.cons _ (.cons_cons _ (.cons _ List.Sublist.slnil))))))))
       ·
        skip
        rw [hg4, cond_true] at hX2
        refine T.pass (by kernel_rfl) (by kernel_rfl) ?_
        refine T.pass (by kernel_rfl) (by kernel_rfl) ?_
        refine T.pure (.bool true) (by kernel_rfl) (fun _ => by kernel_rfl) ?_
        refine T.pure (.bool true) (by kernel_rfl) (fun _ => by kernel_rfl) ?_
        refine T.pass (by kernel_rfl) (by kernel_rfl) ?_
        refine T.pass (by kernel_rfl) (by kernel_rfl) ?_
        refine T.pure (.bool true) (by kernel_rfl) (fun _ => by kernel_rfl) ?_
        refine T.pure (.bool true) (by kernel_rfl) (fun _ => by kernel_rfl) ?_
        refine T.pass (by kernel_rfl) (by kernel_rfl) ?_
        refine T.pass (by kernel_rfl) (by kernel_rfl) ?_
        refine T.pass (by kernel_rfl) (by kernel_rfl) ?_
        refine T.pass (by kernel_rfl) (by kernel_rfl) ?_
        refine T.pure (.bool true) (by kernel_rfl) (fun _ => by kernel_rfl) ?_
        refine T.pure (.bool true) (by kernel_rfl) (fun _ => by kernel_rfl) ?_
        refine T.pass (by kernel_rfl) (by kernel_rfl) ?_
        refine T.pass (by kernel_rfl) (by kernel_rfl) ?_
        refine T.pass (by kernel_rfl) (by kernel_rfl) ?_
        refine T.pass (by kernel_rfl) (by kernel_rfl) ?_
        refine T.pass (by kernel_rfl) (by kernel_rfl) ?_
        refine T.pure (.bool true) (by kernel_rfl) (fun _ => by kernel_rfl) ?_
        refine T.nil ?_
        cases hX2
        exact fun a w' hf hh => Exists.intro V15 (And.intro (View.le_refl _) (And.intro ((((((Fr.nil hf).pick hf 121 rfl).pick hf 15 rfl).pick hf 12 rfl).pick hf 11 rfl).pick hf 4 rfl) (hh.sub (.cons _ (.cons_cons _ (.cons _ (.cons_cons _ (.cons _ List.Sublist.slnil))))))))
      ·
       rintro a w' ⟨V16, hV16, hf, hh⟩
       refine (?_ : T 161 w V16 [box b6 28 [.int .i64 e1.key.pfs, .int .i64 e1.key.obj, .int .i64 e1.key.off, .int .i64 e1.made, .int .i64 e1.gone, .string e1.val], box b2 28 [.int .i64 e1.key.pfs, .int .i64 e1.key.obj, .int .i64 e1.key.off, .int .i64 e1.made, .int .i64 p1.gone, .string p1.val]] [(4, .pointer (some ⟨b2, 0, none⟩)), (11, .slice A5 r8.1.length c5), (12, .pointer (some ⟨b6, 0, none⟩)), (15, .slice A8 r13.1.length c8), (121, .bool z2)] _) a w' hf hh
       clear hf hh
       refine T.cond z2 (by kernel_rfl) (by kernel_rfl) (fun hc4 => ?_) (fun hc4 => ?_)
       ·
        rw [hc4, cond_true] at hF
        refine T.seq ?_
        refine T.region ?_
        refine T.pure (.bool false) (by kernel_rfl) (fun _ => by kernel_rfl) ?_
        refine T.nil ?_
        cases hF
        refine T.ret rfl ?_
        exact T.ret1 rfl (ResIs.tmp rfl) fun w' hh => ⟨_, rfl, hh.below, (show _ from rfl)⟩
       ·
        rw [hc4, cond_false] at hF
        refine T.skip_code ?_
        refine T.seq ?_
        refine T.seq ?_
        refine T.region ?_
        refine T.pure (.slice A8 r13.1.length c8) (by kernel_rfl) (fun _ => by kernel_rfl) ?_
        refine T.pure (.int .i64 (r13.1.length : Int)) (by kernel_rfl) (fun _ => by kernel_rfl) ?_
        refine T.pure (.int .i64 0) (by kernel_rfl) (fun _ => by kernel_rfl) ?_
        refine T.nil ?_
        obtain ⟨q1, hz1, hF⟩ := Option.bind_eq_some_iff.1 hF
        refine T.mid (fun a w' => q1 = Sum.inl () ∧ Fr 161 [] a ∧ Hp w V16 [] w') ?_ ?_
        ·
         refine T.block ?_
         refine T.iter (fun x1 a w' => Fr 161 [(4, .pointer (some ⟨b2, 0, none⟩)), (11, .slice A5 r8.1.length c5), (12, .pointer (some ⟨b6, 0, none⟩)), (15, .slice A8 r13.1.length c8), (123, .int .i64 (r13.1.length : Int)), (124, .int .i64 x1)] a ∧ Hp w V16 [box b6 28 [.int .i64 e1.key.pfs, .int .i64 e1.key.obj, .int .i64 e1.key.off, .int .i64 e1.made, .int .i64 e1.gone, .string e1.val], box b2 28 [.int .i64 e1.key.pfs, .int .i64 e1.key.obj, .int .i64 e1.key.off, .int .i64 e1.made, .int .i64 p1.gone, .string p1.val]] w') hz1 ?_ ?_
         ·
          exact fun a w' hf hh => And.intro (((((((Fr.nil hf).pick hf 124 rfl).pick hf 123 rfl).pick hf 15 rfl).pick hf 12 rfl).pick hf 11 rfl).pick hf 4 rfl) (hh.sub (.cons_cons _ (.cons_cons _ List.Sublist.slnil)))
         ·
          rintro x1 y1 hY1 hr5 a w' ⟨hf, hh⟩
          refine (?_ : T 161 w V16 [box b6 28 [.int .i64 e1.key.pfs, .int .i64 e1.key.obj, .int .i64 e1.key.off, .int .i64 e1.made, .int .i64 e1.gone, .string e1.val], box b2 28 [.int .i64 e1.key.pfs, .int .i64 e1.key.obj, .int .i64 e1.key.off, .int .i64 e1.made, .int .i64 p1.gone, .string p1.val]] [(4, .pointer (some ⟨b2, 0, none⟩)), (11, .slice A5 r8.1.length c5), (12, .pointer (some ⟨b6, 0, none⟩)), (15, .slice A8 r13.1.length c8), (123, .int .i64 (r13.1.length : Int)), (124, .int .i64 x1)] _) a w' hf hh
          clear hf hh
          try dsimp only at hY1
          refine T.seq ?_
          refine T.region ?_
          refine T.pure (.bool (decide (x1 < (r13.1.length : Int)))) (by kernel_rfl) (fun _ => by kernel_rfl) ?_
          refine T.nil ?_
          refine T.seq ?_
          refine T.cond (decide (x1 < (r13.1.length : Int))) (by kernel_rfl) (by kernel_rfl) (fun hc5 => ?_) (fun hc5 => ?_)
          ·
           rw [hc5, cond_true] at hY1
           refine T.skip_code ?_
           refine T.seq ?_
           refine T.block ?_
           refine T.seq ?_
           refine T.region ?_
           refine T.pure (.int .i64 x1) (by kernel_rfl) (fun _ => by kernel_rfl) ?_
           refine T.pure (.int .i64 x1) (by kernel_rfl) (fun _ => by kernel_rfl) ?_
           refine T.nil ?_
           obtain ⟨z3, hX3, hY1⟩ := Option.bind_eq_some_iff.1 hY1
           refine T.cut (fun a w' => Fr 161 [(4, .pointer (some ⟨b2, 0, none⟩)), (11, .slice A5 r8.1.length c5), (12, .pointer (some ⟨b6, 0, none⟩)), (15, .slice A8 r13.1.length c8), (123, .int .i64 (r13.1.length : Int)), (124, .int .i64 x1), (159, .bool z3)] a ∧ Hp w V16 [box b6 28 [.int .i64 e1.key.pfs, .int .i64 e1.key.obj, .int .i64 e1.key.off, .int .i64 e1.made, .int .i64 e1.gone, .string e1.val], box b2 28 [.int .i64 e1.key.pfs, .int .i64 e1.key.obj, .int .i64 e1.key.off, .int .i64 e1.made, .int .i64 p1.gone, .string p1.val]] w') ?_ ?_
           ·
            refine T.quiet (by kernel_rfl) (by kernel_rfl) ?_
            refine TQ.pure (.slice A5 r8.1.length c5) (by kernel_rfl) (fun _ => by kernel_rfl) ?_
            refine TQ.pure (.int .i64 x1) (by kernel_rfl) (fun _ => by kernel_rfl) ?_
            obtain ⟨e2, hb17, hX3⟩ := Option.bind_eq_some_iff.1 hX3
            obtain ⟨hi4, hi5, hi6⟩ := idx_some hb17
            refine TQ.look (.pointer (some ((sadr A5).add (x1.toNat * 6)))) (by kernel_rfl) (fun w' hh => exec_indexAddr (e := 28) (s := 6) rfl rfl rfl (by kernel_rfl) (by kernel_rfl) hi4 hi5 ((SlOk.mono hs5 (View.le_trans (made_le _ _) (View.le_trans (View.le_trans (View.le_trans (View.le_trans (View.le_trans hV10 hV11) hV13) hV14) hV15) hV16))).some_ hi6 (by decide))) ?_
            refine TQ.look (.agg #[.int .i64 e2.key.pfs, .int .i64 e2.key.obj, .int .i64 e2.key.off, .int .i64 e2.made, .int .i64 e2.gone, .string e2.val]) (by kernel_rfl) (fun w' hh => exec_loadN (cs := [.int .i64 e2.key.pfs, .int .i64 e2.key.obj, .int .i64 e2.key.off, .int .i64 e2.made, .int .i64 e2.gone, .string e2.val]) rfl rfl (by kernel_rfl) (by kernel_rfl) (fun j u hj => (hh.cell_view (SlOk.cellF (E := eElem) (SlOk.mono hs5 (View.le_trans (made_le _ _) (View.le_trans (View.le_trans (View.le_trans (View.le_trans (View.le_trans hV10 hV11) hV13) hV14) hV15) hV16))) hi6 j (fun _ _ _ h => h) hj)))) ?_
            refine TQ.look (.agg #[.int .i64 e1.key.pfs, .int .i64 e1.key.obj, .int .i64 e1.key.off, .int .i64 e1.made, .int .i64 e1.gone, .string e1.val]) (by kernel_rfl) (fun w' hh => exec_loadN (cs := [.int .i64 e1.key.pfs, .int .i64 e1.key.obj, .int .i64 e1.key.off, .int .i64 e1.made, .int .i64 e1.gone, .string e1.val]) rfl rfl (by kernel_rfl) (by kernel_rfl) (fun j u hj => (hh.box_at (i := 0) (cs := [.int .i64 e1.key.pfs, .int .i64 e1.key.obj, .int .i64 e1.key.off, .int .i64 e1.made, .int .i64 e1.gone, .string e1.val]) (by rfl) 0 j).trans (seg_at (n := 6) (by rfl) hj))) ?_
            refine TQ.look (.bool (!(e2 == e1))) (by kernel_rfl) (fun w' hh => exec_neq_DElem e2 e1 w' rfl rfl rfl) ?_
            refine TQ.pure (.bool (!(e2 == e1))) (by kernel_rfl) (fun _ => by kernel_rfl) ?_
            cases hg8 : (!(e2 == e1))
            ·
             skip
             rw [hg8, cond_false] at hX3
             refine TQ.pass (by kernel_rfl) (by kernel_rfl) ?_
             refine TQ.pass (by kernel_rfl) (by kernel_rfl) ?_
             refine TQ.pass (by kernel_rfl) (by kernel_rfl) ?_
             refine TQ.pass (by kernel_rfl) (by kernel_rfl) ?_
             refine TQ.pass (by kernel_rfl) (by kernel_rfl) ?_
             refine TQ.pass (by kernel_rfl) (by kernel_rfl) ?_
             refine TQ.pass (by kernel_rfl) (by kernel_rfl) ?_
             refine TQ.pass (by kernel_rfl) (by kernel_rfl) ?_
             refine TQ.pass (by kernel_rfl) (by kernel_rfl) ?_
             refine TQ.pure (.bool false) (by kernel_rfl) (fun _ => by kernel_rfl) ?_
             refine TQ.pure (.bool false) (by kernel_rfl) (fun _ => by kernel_rfl) ?_
             refine TQ.pure (.slice A5 r8.1.length c5) (by kernel_rfl) (fun _ => by kernel_rfl) ?_
             refine TQ.pure (.int .i64 x1) (by kernel_rfl) (fun _ => by kernel_rfl) ?_
             obtain ⟨e3, hb18, hX3⟩ := Option.bind_eq_some_iff.1 hX3
             obtain ⟨hi7, hi8, hi9⟩ := idx_some hb18
             refine TQ.look (.pointer (some ((sadr A5).add (x1.toNat * 6)))) (by kernel_rfl) (fun w' hh => exec_indexAddr (e := 28) (s := 6) rfl rfl rfl (by kernel_rfl) (by kernel_rfl) hi7 hi8 ((SlOk.mono hs5 (View.le_trans (made_le _ _) (View.le_trans (View.le_trans (View.le_trans (View.le_trans (View.le_trans hV10 hV11) hV13) hV14) hV15) hV16))).some_ hi9 (by decide))) ?_
             refine TQ.look (.agg #[.int .i64 e3.key.pfs, .int .i64 e3.key.obj, .int .i64 e3.key.off, .int .i64 e3.made, .int .i64 e3.gone, .string e3.val]) (by kernel_rfl) (fun w' hh => exec_loadN (cs := [.int .i64 e3.key.pfs, .int .i64 e3.key.obj, .int .i64 e3.key.off, .int .i64 e3.made, .int .i64 e3.gone, .string e3.val]) rfl rfl (by kernel_rfl) (by kernel_rfl) (fun j u hj => (hh.cell_view (SlOk.cellF (E := eElem) (SlOk.mono hs5 (View.le_trans (made_le _ _) (View.le_trans (View.le_trans (View.le_trans (View.le_trans (View.le_trans hV10 hV11) hV13) hV14) hV15) hV16))) hi9 j (fun _ _ _ h => h) hj)))) ?_
             refine TQ.look (.agg #[.int .i64 e1.key.pfs, .int .i64 e1.key.obj, .int .i64 e1.key.off, .int .i64 e1.made, .int .i64 e1.gone, .string e1.val]) (by kernel_rfl) (fun w' hh => exec_loadN (cs := [.int .i64 e1.key.pfs, .int .i64 e1.key.obj, .int .i64 e1.key.off, .int .i64 e1.made, .int .i64 e1.gone, .string e1.val]) rfl rfl (by kernel_rfl) (by kernel_rfl) (fun j u hj => (hh.box_at (i := 0) (cs := [.int .i64 e1.key.pfs, .int .i64 e1.key.obj, .int .i64 e1.key.off, .int .i64 e1.made, .int .i64 e1.gone, .string e1.val]) (by rfl) 0 j).trans (seg_at (n := 6) (by rfl) hj))) ?_
             refine TQ.look (.bool (e3 == e1)) (by kernel_rfl) (fun w' hh => exec_eql_DElem e3 e1 w' rfl rfl rfl) ?_
             refine TQ.pure (.bool (e3 == e1)) (by kernel_rfl) (fun _ => by kernel_rfl) ?_
             cases hg9 : (e3 == e1)
             ·
              skip
              rw [hg9, cond_false] at hX3
              refine TQ.pass (by kernel_rfl) (by kernel_rfl) ?_
              refine TQ.pass (by kernel_rfl) (by kernel_rfl) ?_
              refine TQ.pass (by kernel_rfl) (by kernel_rfl) ?_
              refine TQ.pass (by kernel_rfl) (by kernel_rfl) ?_
              refine TQ.pass (by kernel_rfl) (by kernel_rfl) ?_
              refine TQ.pass (by kernel_rfl) (by kernel_rfl) ?_
              refine TQ.pure (.bool false) (by kernel_rfl) (fun _ => by kernel_rfl) ?_
              refine TQ.pure (.bool false) (by kernel_rfl) (fun _ => by kernel_rfl) ?_
              refine TQ.nil ?_
              cases hX3
              exact fun a w' hf hh => And.intro ((((((((Fr.nil hf).pick hf 159 rfl).pick hf 124 rfl).pick hf 123 rfl).pick hf 15 rfl).pick hf 12 rfl).pick hf 11 rfl).pick hf 4 rfl) (hh.sub (.cons_cons _ (.cons_cons _ List.Sublist.slnil)))
             ·
              skip
              rw [hg9, cond_true] at hX3
              refine TQ.pure (.slice A8 r13.1.length c8) (by kernel_rfl) (fun _ => by kernel_rfl) ?_
              refine TQ.pure (.int .i64 x1) (by kernel_rfl) (fun _ => by kernel_rfl) ?_
              obtain ⟨e4, hb19, hX3⟩ := Option.bind_eq_some_iff.1 hX3
              obtain ⟨hi10, hi11, hi12⟩ := idx_some hb19
              refine TQ.look (.pointer (some ((sadr A8).add (x1.toNat * 6)))) (by kernel_rfl) (fun w' hh => exec_indexAddr (e := 28) (s := 6) rfl rfl rfl (by kernel_rfl) (by kernel_rfl) hi10 hi11 ((SlOk.mono hs8 (View.le_trans (made_le _ _) (View.le_trans hV15 hV16))).some_ hi12 (by decide))) ?_
              refine TQ.look (.agg #[.int .i64 e4.key.pfs, .int .i64 e4.key.obj, .int .i64 e4.key.off, .int .i64 e4.made, .int .i64 e4.gone, .string e4.val]) (by kernel_rfl) (fun w' hh => exec_loadN (cs := [.int .i64 e4.key.pfs, .int .i64 e4.key.obj, .int .i64 e4.key.off, .int .i64 e4.made, .int .i64 e4.gone, .string e4.val]) rfl rfl (by kernel_rfl) (by kernel_rfl) (fun j u hj => (hh.cell_view (SlOk.cellF (E := eElem) (SlOk.mono hs8 (View.le_trans (made_le _ _) (View.le_trans hV15 hV16))) hi12 j (fun _ _ _ h => h) hj)))) ?_
              refine TQ.look (.agg #[.int .i64 e1.key.pfs, .int .i64 e1.key.obj, .int .i64 e1.key.off, .int .i64 e1.made, .int .i64 p1.gone, .string p1.val]) (by kernel_rfl) (fun w' hh => exec_loadN (cs := [.int .i64 e1.key.pfs, .int .i64 e1.key.obj, .int .i64 e1.key.off, .int .i64 e1.made, .int .i64 p1.gone, .string p1.val]) rfl rfl (by kernel_rfl) (by kernel_rfl) (fun j u hj => (hh.box_at (i := 1) (cs := [.int .i64 e1.key.pfs, .int .i64 e1.key.obj, .int .i64 e1.key.off, .int .i64 e1.made, .int .i64 p1.gone, .string p1.val]) (by rfl) 0 j).trans (seg_at (n := 6) (by rfl) hj))) ?_
              refine TQ.look (.bool (!(e4 == (DElem.mk e1.key e1.made p1.gone p1.val)))) (by kernel_rfl) (fun w' hh => exec_neq_DElem e4 (DElem.mk e1.key e1.made p1.gone p1.val) w' rfl rfl rfl) ?_
              refine TQ.pure (.bool (!(e4 == (DElem.mk e1.key e1.made p1.gone p1.val)))) (by kernel_rfl) (fun _ => by kernel_rfl) ?_
              refine TQ.pure (.bool (!(e4 == (DElem.mk e1.key e1.made p1.gone p1.val)))) (by kernel_rfl) (fun _ => by kernel_rfl) ?_
              refine TQ.nil ?_
              cases hX3
              exact fun a w' hf hh => And.intro ((((((((Fr.nil hf).pick hf 159 rfl).pick hf 124 rfl).pick hf 123 rfl).pick hf 15 rfl).pick hf 12 rfl).pick hf 11 rfl).pick hf 4 rfl) (hh.sub (.cons_cons _ (.cons_cons _ List.Sublist.slnil)))
            ·
             skip
             rw [hg8, cond_true] at hX3
             refine TQ.pure (.slice A8 r13.1.length c8) (by kernel_rfl) (fun _ => by kernel_rfl) ?_
             refine TQ.pure (.int .i64 x1) (by kernel_rfl) (fun _ => by kernel_rfl) ?_
             obtain ⟨e5, hb20, hX3⟩ := Option.bind_eq_some_iff.1 hX3
             obtain ⟨hi13, hi14, hi15⟩ := idx_some hb20
             refine TQ.look (.pointer (some ((sadr A8).add (x1.toNat * 6)))) (by kernel_rfl) (fun w' hh => exec_indexAddr (e := 28) (s := 6) rfl rfl rfl (by kernel_rfl) (by kernel_rfl) hi13 hi14 ((SlOk.mono hs8 (View.le_trans (made_le _ _) (View.le_trans hV15 hV16))).some_ hi15 (by decide))) ?_
             refine TQ.look (.agg #[.int .i64 e5.key.pfs, .int .i64 e5.key.obj, .int .i64 e5.key.off, .int .i64 e5.made, .int .i64 e5.gone, .string e5.val]) (by kernel_rfl) (fun w' hh => exec_loadN (cs := [.int .i64 e5.key.pfs, .int .i64 e5.key.obj, .int .i64 e5.key.off, .int .i64 e5.made, .int .i64 e5.gone, .string e5.val]) rfl rfl (by kernel_rfl) (by kernel_rfl) (fun j u hj => (hh.cell_view (SlOk.cellF (E := eElem) (SlOk.mono hs8 (View.le_trans (made_le _ _) (View.le_trans hV15 hV16))) hi15 j (fun _ _ _ h => h) hj)))) ?_
             refine TQ.pure (.slice A5 r8.1.length c5) (by kernel_rfl) (fun _ => by kernel_rfl) ?_
             refine TQ.pure (.int .i64 x1) (by kernel_rfl) (fun _ => by kernel_rfl) ?_
             obtain ⟨e6, hb21, hX3⟩ := Option.bind_eq_some_iff.1 hX3
             obtain ⟨hi16, hi17, hi18⟩ := idx_some hb21
             refine TQ.look (.pointer (some ((sadr A5).add (x1.toNat * 6)))) (by kernel_rfl) (fun w' hh => exec_indexAddr (e := 28) (s := 6) rfl rfl rfl (by kernel_rfl) (by kernel_rfl) hi16 hi17 ((SlOk.mono hs5 (View.le_trans (made_le _ _) (View.le_trans (View.le_trans (View.le_trans (View.le_trans (View.le_trans hV10 hV11) hV13) hV14) hV15) hV16))).some_ hi18 (by decide))) ?_
             refine TQ.look (.agg #[.int .i64 e6.key.pfs, .int .i64 e6.key.obj, .int .i64 e6.key.off, .int .i64 e6.made, .int .i64 e6.gone, .string e6.val]) (by kernel_rfl) (fun w' hh => exec_loadN (cs := [.int .i64 e6.key.pfs, .int .i64 e6.key.obj, .int .i64 e6.key.off, .int .i64 e6.made, .int .i64 e6.gone, .string e6.val]) rfl rfl (by kernel_rfl) (by kernel_rfl) (fun j u hj => (hh.cell_view (SlOk.cellF (E := eElem) (SlOk.mono hs5 (View.le_trans (made_le _ _) (View.le_trans (View.le_trans (View.le_trans (View.le_trans (View.le_trans hV10 hV11) hV13) hV14) hV15) hV16))) hi18 j (fun _ _ _ h => h) hj)))) ?_
             refine TQ.look (.bool (!(e5 == e6))) (by kernel_rfl) (fun w' hh => exec_neq_DElem e5 e6 w' rfl rfl rfl) ?_
             refine TQ.pure (.bool (!(e5 == e6))) (by kernel_rfl) (fun _ => by kernel_rfl) ?_
             refine TQ.pure (.bool (!(e5 == e6))) (by kernel_rfl) (fun _ => by kernel_rfl) ?_
             cases hg10 : (!(e5 == e6))
             ·
              skip
              rw [hg10, cond_false] at hX3
              refine TQ.pure (.slice A5 r8.1.length c5) (by kernel_rfl) (fun _ => by kernel_rfl) ?_
              refine TQ.pure (.int .i64 x1) (by kernel_rfl) (fun _ => by kernel_rfl) ?_
              obtain ⟨e7, hb22, hX3⟩ := Option.bind_eq_some_iff.1 hX3
              obtain ⟨hi19, hi20, hi21⟩ := idx_some hb22
              refine TQ.look (.pointer (some ((sadr A5).add (x1.toNat * 6)))) (by kernel_rfl) (fun w' hh => exec_indexAddr (e := 28) (s := 6) rfl rfl rfl (by kernel_rfl) (by kernel_rfl) hi19 hi20 ((SlOk.mono hs5 (View.le_trans (made_le _ _) (View.le_trans (View.le_trans (View.le_trans (View.le_trans (View.le_trans hV10 hV11) hV13) hV14) hV15) hV16))).some_ hi21 (by decide))) ?_
              refine TQ.look (.agg #[.int .i64 e7.key.pfs, .int .i64 e7.key.obj, .int .i64 e7.key.off, .int .i64 e7.made, .int .i64 e7.gone, .string e7.val]) (by kernel_rfl) (fun w' hh => exec_loadN (cs := [.int .i64 e7.key.pfs, .int .i64 e7.key.obj, .int .i64 e7.key.off, .int .i64 e7.made, .int .i64 e7.gone, .string e7.val]) rfl rfl (by kernel_rfl) (by kernel_rfl) (fun j u hj => (hh.cell_view (SlOk.cellF (E := eElem) (SlOk.mono hs5 (View.le_trans (made_le _ _) (View.le_trans (View.le_trans (View.le_trans (View.le_trans (View.le_trans hV10 hV11) hV13) hV14) hV15) hV16))) hi21 j (fun _ _ _ h => h) hj)))) ?_
              refine TQ.look (.agg #[.int .i64 e1.key.pfs, .int .i64 e1.key.obj, .int .i64 e1.key.off, .int .i64 e1.made, .int .i64 e1.gone, .string e1.val]) (by kernel_rfl) (fun w' hh => exec_loadN (cs := [.int .i64 e1.key.pfs, .int .i64 e1.key.obj, .int .i64 e1.key.off, .int .i64 e1.made, .int .i64 e1.gone, .string e1.val]) rfl rfl (by kernel_rfl) (by kernel_rfl) (fun j u hj => (hh.box_at (i := 0) (cs := [.int .i64 e1.key.pfs, .int .i64 e1.key.obj, .int .i64 e1.key.off, .int .i64 e1.made, .int .i64 e1.gone, .string e1.val]) (by rfl) 0 j).trans (seg_at (n := 6) (by rfl) hj))) ?_
              refine TQ.look (.bool (e7 == e1)) (by kernel_rfl) (fun w' hh => exec_eql_DElem e7 e1 w' rfl rfl rfl) ?_
              refine TQ.pure (.bool (e7 == e1)) (by kernel_rfl) (fun _ => by kernel_rfl) ?_
              cases hg11 : (e7 == e1)
              ·
               skip
               rw [hg11, cond_false] at hX3
               refine TQ.pass (by kernel_rfl) (by kernel_rfl) ?_
               refine TQ.pass (by kernel_rfl) (by kernel_rfl) ?_
               refine TQ.pass (by kernel_rfl) (by kernel_rfl) ?_
               refine TQ.pass (by kernel_rfl) (by kernel_rfl) ?_
               refine TQ.pass (by kernel_rfl) (by kernel_rfl) ?_
               refine TQ.pass (by kernel_rfl) (by kernel_rfl) ?_
               refine TQ.pure (.bool false) (by kernel_rfl) (fun _ => by kernel_rfl) ?_
               refine TQ.pure (.bool false) (by kernel_rfl) (fun _ => by kernel_rfl) ?_
               refine TQ.nil ?_
               cases hX3
               exact fun a w' hf hh => And.intro ((((((((Fr.nil hf).pick hf 159 rfl).pick hf 124 rfl).pick hf 123 rfl).pick hf 15 rfl).pick hf 12 rfl).pick hf 11 rfl).pick hf 4 rfl) (hh.sub (.cons_cons _ (.cons_cons _ List.Sublist.slnil)))
              ·
               skip
               rw [hg11, cond_true] at hX3
               refine TQ.pure (.slice A8 r13.1.length c8) (by kernel_rfl) (fun _ => by kernel_rfl) ?_
               refine TQ.pure (.int .i64 x1) (by kernel_rfl) (fun _ => by kernel_rfl) ?_
               obtain ⟨e8, hb23, hX3⟩ := Option.bind_eq_some_iff.1 hX3
               obtain ⟨hi22, hi23, hi24⟩ := idx_some hb23
               refine TQ.look (.pointer (some ((sadr A8).add (x1.toNat * 6)))) (by kernel_rfl) (fun w' hh => exec_indexAddr (e := 28) (s := 6) rfl rfl rfl (by kernel_rfl) (by kernel_rfl) hi22 hi23 ((SlOk.mono hs8 (View.le_trans (made_le _ _) (View.le_trans hV15 hV16))).some_ hi24 (by decide))) ?_
               refine TQ.look (.agg #[.int .i64 e8.key.pfs, .int .i64 e8.key.obj, .int .i64 e8.key.off, .int .i64 e8.made, .int .i64 e8.gone, .string e8.val]) (by kernel_rfl) (fun w' hh => exec_loadN (cs := [.int .i64 e8.key.pfs, .int .i64 e8.key.obj, .int .i64 e8.key.off, .int .i64 e8.made, .int .i64 e8.gone, .string e8.val]) rfl rfl (by kernel_rfl) (by kernel_rfl) (fun j u hj => (hh.cell_view (SlOk.cellF (E := eElem) (SlOk.mono hs8 (View.le_trans (made_le _ _) (View.le_trans hV15 hV16))) hi24 j (fun _ _ _ h => h) hj)))) ?_
               refine TQ.look (.agg #[.int .i64 e1.key.pfs, .int .i64 e1.key.obj, .int .i64 e1.key.off, .int .i64 e1.made, .int .i64 p1.gone, .string p1.val]) (by kernel_rfl) (fun w' hh => exec_loadN (cs := [.int .i64 e1.key.pfs, .int .i64 e1.key.obj, .int .i64 e1.key.off, .int .i64 e1.made, .int .i64 p1.gone, .string p1.val]) rfl rfl (by kernel_rfl) (by kernel_rfl) (fun j u hj => (hh.box_at (i := 1) (cs := [.int .i64 e1.key.pfs, .int .i64 e1.key.obj, .int .i64 e1.key.off, .int .i64 e1.made, .int .i64 p1.gone, .string p1.val]) (by rfl) 0 j).trans (seg_at (n := 6) (by rfl) hj))) ?_
               refine TQ.look (.bool (!(e8 == (DElem.mk e1.key e1.made p1.gone p1.val)))) (by kernel_rfl) (fun w' hh => exec_neq_DElem e8 (DElem.mk e1.key e1.made p1.gone p1.val) w' rfl rfl rfl) ?_
               refine TQ.pure (.bool (!(e8 == (DElem.mk e1.key e1.made p1.gone p1.val)))) (by kernel_rfl) (fun _ => by kernel_rfl) ?_
               refine TQ.pure (.bool (!(e8 == (DElem.mk e1.key e1.made p1.gone p1.val)))) (by kernel_rfl) (fun _ => by kernel_rfl) ?_
               refine TQ.nil ?_
               cases hX3
               exact fun a w' hf hh => And.intro ((((((((Fr.nil hf).pick hf 159 rfl).pick hf 124 rfl).pick hf 123 rfl).pick hf 15 rfl).pick hf 12 rfl).pick hf 11 rfl).pick hf 4 rfl) (hh.sub (.cons_cons _ (.cons_cons _ List.Sublist.slnil)))
             ·
              skip
              rw [hg10, cond_true] at hX3
              refine TQ.pass (by kernel_rfl) (by kernel_rfl) ?_
              refine TQ.pass (by kernel_rfl) (by kernel_rfl) ?_
              refine TQ.pass (by kernel_rfl) (by kernel_rfl) ?_
              refine TQ.pass (by kernel_rfl) (by kernel_rfl) ?_
              refine TQ.pass (by kernel_rfl) (by kernel_rfl) ?_
              refine TQ.pass (by kernel_rfl) (by kernel_rfl) ?_
              refine TQ.pass (by kernel_rfl) (by kernel_rfl) ?_
              refine TQ.pass (by kernel_rfl) (by kernel_rfl) ?_
              refine TQ.pass (by kernel_rfl) (by kernel_rfl) ?_
              refine TQ.pass (by kernel_rfl) (by kernel_rfl) ?_
              refine TQ.pass (by kernel_rfl) (by kernel_rfl) ?_
              refine TQ.pass (by kernel_rfl) (by kernel_rfl) ?_
              refine TQ.pass (by kernel_rfl) (by kernel_rfl) ?_
              refine TQ.pass (by kernel_rfl) (by kernel_rfl) ?_
              refine TQ.pure (.bool true) (by kernel_rfl) (fun _ => by kernel_rfl) ?_
              refine TQ.nil ?_
              cases hX3
              exact fun a w' hf hh => And.intro ((((((((Fr.nil hf).pick hf 159 rfl).pick hf 124 rfl).pick hf 123 rfl).pick hf 15 rfl).pick hf 12 rfl).pick hf 11 rfl).pick hf 4 rfl) (hh.sub (.cons_cons _ (.cons_cons _ List.Sublist.slnil)))
           ·
            rintro a w' ⟨hf, hh⟩
            refine (?_ : T 161 w V16 [box b6 28 [.int .i64 e1.key.pfs, .int .i64 e1.key.obj, .int .i64 e1.key.off, .int .i64 e1.made, .int .i64 e1.gone, .string e1.val], box b2 28 [.int .i64 e1.key.pfs, .int .i64 e1.key.obj, .int .i64 e1.key.off, .int .i64 e1.made, .int .i64 p1.gone, .string p1.val]] [(4, .pointer (some ⟨b2, 0, none⟩)), (11, .slice A5 r8.1.length c5), (12, .pointer (some ⟨b6, 0, none⟩)), (15, .slice A8 r13.1.length c8), (123, .int .i64 (r13.1.length : Int)), (124, .int .i64 x1), (159, .bool z3)] _) a w' hf hh
            clear hf hh
            refine T.cond z3 (by kernel_rfl) (by kernel_rfl) (fun hc6 => ?_) (fun hc6 => ?_)
            ·
             rw [hc6, cond_true] at hY1
             refine T.seq ?_
             refine T.region ?_
             refine T.pure (.bool false) (by kernel_rfl) (fun _ => by kernel_rfl) ?_
             refine T.nil ?_
             cases hY1
             cases (hr5 _ rfl)
             try dsimp only at hF
             cases hF
             refine T.ret rfl ?_
             exact T.ret1 rfl (ResIs.tmp rfl) fun w' hh => ⟨_, rfl, hh.below, (show _ from rfl)⟩
            ·
             rw [hc6, cond_false] at hY1
             refine T.skip_code ?_
             refine T.region ?_
             refine T.pure (.int .i64 (IntKind.i64.wrap (x1 + 1))) (by kernel_rfl) (fun _ => by kernel_rfl) ?_
             refine T.pure (.int .i64 (IntKind.i64.wrap (x1 + 1))) (by kernel_rfl) (fun _ => by kernel_rfl) ?_
             refine T.nil ?_
             cases hY1
             exact fun a w' hf hh => Exists.intro (IntKind.i64.wrap (x1 + 1)) (And.intro rfl (And.intro (((((((Fr.nil hf).pick hf 124 rfl).pick hf 123 rfl).pick hf 15 rfl).pick hf 12 rfl).pick hf 11 rfl).pick hf 4 rfl) (hh.sub (.cons_cons _ (.cons_cons _ List.Sublist.slnil)))))
          ·
           rw [hc5, cond_false] at hY1
           refine T.exit ?_
           cases hY1
           cases (hr5 _ rfl)
           exact fun a w' hf hh => And.intro rfl (And.intro (Fr.nil hf) (hh.sub (.cons _ (.cons _ List.Sublist.slnil))))
        ·
         rintro a w' ⟨rfl, hf, hh⟩
         try dsimp only at hF
         refine (?_ : T 161 w V16 [] [] _) a w' hf hh
         clear hf hh
         refine T.seq ?_
         refine T.region ?_
         refine T.pure (.bool true) (by kernel_rfl) (fun _ => by kernel_rfl) ?_
         refine T.nil ?_
         cases hF
         refine T.ret rfl ?_
         exact T.ret1 rfl (ResIs.tmp rfl) fun w' hh => ⟨_, rfl, hh.below, (show _ from rfl)⟩

end Go.Proofs.Ytcmkdoahkncakaa
