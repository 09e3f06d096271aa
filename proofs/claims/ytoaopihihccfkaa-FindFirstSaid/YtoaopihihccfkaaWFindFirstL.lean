/- The Go functions of group WFindFirst compute the pure functions of that group: written by walkgen.py. Condition of each: the pure function yields a result. -/
import Derived.Test.YtoaopihihccfkaaFindSL
import Derived.Test.YtoaopihihccfkaaFindFL
import Derived.Test.YtoaopihihccfkaaBuildL
import Derived.Test.YtoaopihihccfkaaTreeL
import Derived.Test.YtoaopihihccfkaaWFindFirstF
import Derived.Test.YtoaopihihccfkaaEqL
namespace Go.Proofs.Ytoaopihihccfkaa
set_option linter.unusedVariables false

set_option maxRecDepth 100000 in
set_option maxHeartbeats 4000000 in
theorem annalkeep_FindFirst_l (F : Nat) (p0 : DTree) (p1 : DSpot) (r : Bool) (hF : annalkeep_FindFirst F p0 p1 = some r) (w : World) (A1 : Option Addr) (c1 : Nat) (hs1 : SlOk (vw w) eNode A1 c1 p0.nodes) :
    Calls Try.prog 5 #[.agg #[.int .i64 p0.root, .slice A1 p0.nodes.length c1], .agg #[.int .i64 p1.key.pfs, .int .i64 p1.key.obj, .int .i64 p1.key.off, .int .i64 p1.made]] w (Post (vSc eBool) r w) := by
 unfold annalkeep_FindFirst at hF
 refine T.start (l := [.agg #[.int .i64 p0.root, .slice A1 p0.nodes.length c1], .agg #[.int .i64 p1.key.pfs, .int .i64 p1.key.obj, .int .i64 p1.key.off, .int .i64 p1.made]]) Try.func5 rfl rfl rfl ?_
 refine T.seq ?_
 refine T.region ?_
 refine T.step (W1.new 24 [.int .i64 p0.root, .slice A1 p0.nodes.length c1] (fun b => .pointer (some ⟨b, 0, none⟩)) (by kernel_rfl) (fun _ => by kernel_rfl) (fun b1 => ?_))
 refine T.step (W1.new 36 [.int .i64 p1.key.pfs, .int .i64 p1.key.obj, .int .i64 p1.key.off, .int .i64 p1.made] (fun b => .pointer (some ⟨b, 0, none⟩)) (by kernel_rfl) (fun _ => by kernel_rfl) (fun b2 => ?_))
 refine T.pure (.bool false) (by kernel_rfl) (fun _ => by kernel_rfl) ?_
 refine T.nil ?_
 refine T.seq ?_
 refine T.seq ?_
 refine T.region ?_
 obtain ⟨r1, hb1, hF⟩ := Option.bind_eq_some_iff.1 hF
 refine T.step (W1.call (vAg eElem) r1 17 #[.int .i64 1, .string (ByteArray.mk #[97])] (by kernel_rfl) (fun _ => by kernel_rfl) (fun w' hh => annalkeep_at1_l 1 (ByteArray.mk #[97]) r1 hb1 w' ) ?_)
 intro u V1 hV1 hu
 obtain rfl := sureElem _ _ _ hu
 refine T.step (W1.new 39 [.int .i64 r1.key.pfs, .int .i64 r1.key.obj, .int .i64 r1.key.off, .int .i64 r1.made, .int .i64 r1.gone, .string r1.val] (fun b => .slice (some ⟨b, 0, none⟩) 1 1) (by kernel_rfl) (fun _ => by kernel_rfl) (fun b3 => ?_))
 obtain ⟨r2, hb2, hF⟩ := Option.bind_eq_some_iff.1 hF
 refine T.step (W1.call (vAg eTree) r2 16 #[.slice (some ⟨b3, 0, none⟩) 1 1] (by kernel_rfl) (fun _ => by kernel_rfl) (fun w' hh => annalkeep_of_l F [r1] r2 hb2 w' (some ⟨b3, 0, none⟩) 1 (slok_lit (E := eElem) (f := DElem.cells) [r1] (fun _ _ => rfl) (Nat.le_of_ble_eq_true (by rfl)) (fun j => hh.cellBox (i := 0) (by rfl) j))) ?_)
 intro u V2 hV2 hu
 obtain ⟨cs1, rfl, hr1⟩ := vagg_elim hu
 obtain ⟨A2, c2, rfl, hs2⟩ := hr1
 refine T.pure (.agg #[.int .i64 0, .int .i64 0, .int .i64 0, .int .i64 0]) (by kernel_rfl) (fun _ => by kernel_rfl) ?_
 obtain ⟨r3, hb3, hF⟩ := Option.bind_eq_some_iff.1 hF
 refine T.step (W1.call (vT2 (vSc (eList eElem)) (vSc eInt)) r3 20 #[.agg #[.int .i64 r2.root, .slice A2 r2.nodes.length c2], .agg #[.int .i64 0, .int .i64 0, .int .i64 0, .int .i64 0], .int .i64 5] (by kernel_rfl) (fun _ => by kernel_rfl) (fun w' hh => find_From_l F r2 (DSpot.mk (DKey.mk 0 0 0) 0) 5 r3 hb3 w' A2 c2 (SlOk.mono (SlOk.mono hs2 (View.le_trans (made_le _ _) (View.le_refl _))) hh.view)) ?_)
 intro u V3 hV3 hu
 obtain ⟨u1, u2, rfl, hu1, hu2⟩ := vT2_elim hu
 obtain ⟨A3, c3, rfl, hs3⟩ := vlist_elim hu1
 obtain rfl := sureInt _ _ _ hu2
 refine T.pure (.tuple #[.slice A3 r3.1.length c3, .int .i64 r3.2]) (by kernel_rfl) (fun _ => by kernel_rfl) ?_
 refine T.pure (.slice A3 r3.1.length c3) (by kernel_rfl) (fun _ => by kernel_rfl) ?_
 refine T.pure (.int .i64 r3.2) (by kernel_rfl) (fun _ => by kernel_rfl) ?_
 refine T.pure (.slice A3 r3.1.length c3) (by kernel_rfl) (fun _ => by kernel_rfl) ?_
 refine T.pure (.int .i64 r3.2) (by kernel_rfl) (fun _ => by kernel_rfl) ?_
 refine T.nil ?_
 refine T.cut (fun a w' => Fr 96 [(2, .pointer (some ⟨b1, 0, none⟩)), (3, .pointer (some ⟨b2, 0, none⟩)), (25, .bool ((r3.2 != 0) || ((r3.1.length : Int) != 1)))] a ∧ Hp w V3 [box b2 36 [.int .i64 p1.key.pfs, .int .i64 p1.key.obj, .int .i64 p1.key.off, .int .i64 p1.made], box b1 24 [.int .i64 p0.root, .slice A1 p0.nodes.length c1]] w') ?_ ?_
 ·
  refine T.region ?_
  refine T.pure (.int .i64 r3.2) (by kernel_rfl) (fun _ => by kernel_rfl) ?_
  refine T.pure (.bool (r3.2 != 0)) (by kernel_rfl) (fun _ => by kernel_rfl) ?_
  refine T.pure (.bool (r3.2 != 0)) (by kernel_rfl) (fun _ => by kernel_rfl) ?_
  cases hg1 : (r3.2 != 0)
  ·
   skip
   refine T.pure (.slice A3 r3.1.length c3) (by kernel_rfl) (fun _ => by kernel_rfl) ?_
   refine T.pure (.int .i64 (r3.1.length : Int)) (by kernel_rfl) (fun _ => by kernel_rfl) ?_
   refine T.pure (.bool ((r3.1.length : Int) != 1)) (by kernel_rfl) (fun _ => by kernel_rfl) ?_
   refine T.pure (.bool ((r3.1.length : Int) != 1)) (by kernel_rfl) (fun _ => by kernel_rfl) ?_
   refine T.nil ?_
   exact fun a w' hf hh => And.intro ((((Fr.nil hf).pick hf 25 rfl).pick hf 3 rfl).pick hf 2 rfl) (hh.sub (.cons _ (.cons_cons _ (.cons_cons _ List.Sublist.slnil))))
  ·
   skip
   refine T.pass (by kernel_rfl) (by kernel_rfl) ?_
   refine T.pass (by kernel_rfl) (by kernel_rfl) ?_
   refine T.pass (by kernel_rfl) (by kernel_rfl) ?_
   refine T.pure (.bool true) (by kernel_rfl) (fun _ => by kernel_rfl) ?_
   refine T.nil ?_
   exact fun a w' hf hh => And.intro ((((Fr.nil hf).pick hf 25 rfl).pick hf 3 rfl).pick hf 2 rfl) (hh.sub (.cons _ (.cons_cons _ (.cons_cons _ List.Sublist.slnil))))
 ·
  rintro a w' ⟨hf, hh⟩
  refine (?_ : T 96 w V3 [box b2 36 [.int .i64 p1.key.pfs, .int .i64 p1.key.obj, .int .i64 p1.key.off, .int .i64 p1.made], box b1 24 [.int .i64 p0.root, .slice A1 p0.nodes.length c1]] [(2, .pointer (some ⟨b1, 0, none⟩)), (3, .pointer (some ⟨b2, 0, none⟩)), (25, .bool ((r3.2 != 0) || ((r3.1.length : Int) != 1)))] _) a w' hf hh
  clear hf hh
  refine T.cond ((r3.2 != 0) || ((r3.1.length : Int) != 1)) (by kernel_rfl) (by kernel_rfl) (fun hc1 => ?_) (fun hc1 => ?_)
  ·
   rw [hc1, cond_true] at hF
   refine T.seq ?_
   refine T.region ?_
   refine T.pure (.bool false) (by kernel_rfl) (fun _ => by kernel_rfl) ?_
   refine T.nil ?_
   cases hF
   refine T.ret rfl ?_
   exact T.ret1 rfl (ResIs.tmp rfl) fun w' hh => ⟨_, rfl, hh.below, (show _ from rfl)⟩
  ·
   rw [hc1, cond_false] at hF
   refine T.skip_code ?_
   refine T.seq ?_
   refine T.region ?_
   refine T.look (.agg #[.int .i64 p0.root, .slice A1 p0.nodes.length c1]) (by kernel_rfl) (fun w' hh => exec_loadN (cs := [.int .i64 p0.root, .slice A1 p0.nodes.length c1]) rfl rfl (by kernel_rfl) (by kernel_rfl) (fun j u hj => (hh.box_at (i := 1) (cs := [.int .i64 p0.root, .slice A1 p0.nodes.length c1]) (by rfl) 0 j).trans (seg_at (n := 2) (by rfl) hj))) ?_
   refine T.look (.agg #[.int .i64 p1.key.pfs, .int .i64 p1.key.obj, .int .i64 p1.key.off, .int .i64 p1.made]) (by kernel_rfl) (fun w' hh => exec_loadN (cs := [.int .i64 p1.key.pfs, .int .i64 p1.key.obj, .int .i64 p1.key.off, .int .i64 p1.made]) rfl rfl (by kernel_rfl) (by kernel_rfl) (fun j u hj => (hh.box_at (i := 0) (cs := [.int .i64 p1.key.pfs, .int .i64 p1.key.obj, .int .i64 p1.key.off, .int .i64 p1.made]) (by rfl) 0 j).trans (seg_at (n := 4) (by rfl) hj))) ?_
   obtain ⟨r4, hb4, hF⟩ := Option.bind_eq_some_iff.1 hF
   refine T.step (W1.call (vT2 (vAg eElem) (vSc eInt)) r4 21 #[.agg #[.int .i64 p0.root, .slice A1 p0.nodes.length c1], .agg #[.int .i64 p1.key.pfs, .int .i64 p1.key.obj, .int .i64 p1.key.off, .int .i64 p1.made]] (by kernel_rfl) (fun _ => by kernel_rfl) (fun w' hh => find_Spot_l F p0 p1 r4 hb4 w' A1 c1 (SlOk.mono (SlOk.mono hs1 (View.le_trans (View.le_trans hV1 hV2) hV3)) hh.view)) ?_)
   intro u V4 hV4 hu
   obtain rfl := (Sure.t2 sureElem sureInt) _ _ _ hu
   refine T.pure (.tuple #[.agg #[.int .i64 r4.1.key.pfs, .int .i64 r4.1.key.obj, .int .i64 r4.1.key.off, .int .i64 r4.1.made, .int .i64 r4.1.gone, .string r4.1.val], .int .i64 r4.2]) (by kernel_rfl) (fun _ => by kernel_rfl) ?_
   refine T.pure (.agg #[.int .i64 r4.1.key.pfs, .int .i64 r4.1.key.obj, .int .i64 r4.1.key.off, .int .i64 r4.1.made, .int .i64 r4.1.gone, .string r4.1.val]) (by kernel_rfl) (fun _ => by kernel_rfl) ?_
   refine T.pure (.int .i64 r4.2) (by kernel_rfl) (fun _ => by kernel_rfl) ?_
   refine T.step (W1.new 39 [.int .i64 0, .int .i64 0, .int .i64 0, .int .i64 0, .int .i64 0, .string (ByteArray.mk #[])] (fun b => .pointer (some ⟨b, 0, none⟩)) (by kernel_rfl) (fun _ => by kernel_rfl) (fun b4 => ?_))
   refine T.step (W1.store 0 [.int .i64 r4.1.key.pfs, .int .i64 r4.1.key.obj, .int .i64 r4.1.key.off, .int .i64 r4.1.made, .int .i64 r4.1.gone, .string r4.1.val] [box b4 39 [.int .i64 r4.1.key.pfs, .int .i64 r4.1.key.obj, .int .i64 r4.1.key.off, .int .i64 r4.1.made, .int .i64 r4.1.gone, .string r4.1.val], box b2 36 [.int .i64 p1.key.pfs, .int .i64 p1.key.obj, .int .i64 p1.key.off, .int .i64 p1.made], box b1 24 [.int .i64 p0.root, .slice A1 p0.nodes.length c1]] (by rfl) rfl (by kernel_rfl) (fun w' hw => exec_store (vs := [.int .i64 r4.1.key.pfs, .int .i64 r4.1.key.obj, .int .i64 r4.1.key.off, .int .i64 r4.1.made, .int .i64 r4.1.gone, .string r4.1.val]) rfl rfl rfl rfl (by kernel_rfl) (one_of rfl) (by simp) rfl hw) ?_)
   refine T.pure (.int .i64 r4.2) (by kernel_rfl) (fun _ => by kernel_rfl) ?_
   refine T.nil ?_
   refine T.seq ?_
   refine T.region ?_
   refine T.look (.agg #[.int .i64 p0.root, .slice A1 p0.nodes.length c1]) (by kernel_rfl) (fun w' hh => exec_loadN (cs := [.int .i64 p0.root, .slice A1 p0.nodes.length c1]) rfl rfl (by kernel_rfl) (by kernel_rfl) (fun j u hj => (hh.box_at (i := 2) (cs := [.int .i64 p0.root, .slice A1 p0.nodes.length c1]) (by rfl) 0 j).trans (seg_at (n := 2) (by rfl) hj))) ?_
   refine T.look (.agg #[.int .i64 p1.key.pfs, .int .i64 p1.key.obj, .int .i64 p1.key.off, .int .i64 p1.made]) (by kernel_rfl) (fun w' hh => exec_loadN (cs := [.int .i64 p1.key.pfs, .int .i64 p1.key.obj, .int .i64 p1.key.off, .int .i64 p1.made]) rfl rfl (by kernel_rfl) (by kernel_rfl) (fun j u hj => (hh.box_at (i := 1) (cs := [.int .i64 p1.key.pfs, .int .i64 p1.key.obj, .int .i64 p1.key.off, .int .i64 p1.made]) (by rfl) 0 j).trans (seg_at (n := 4) (by rfl) hj))) ?_
   obtain ⟨r5, hb5, hF⟩ := Option.bind_eq_some_iff.1 hF
   refine T.step (W1.call (vT2 (vSc (eList eElem)) (vSc eInt)) r5 20 #[.agg #[.int .i64 p0.root, .slice A1 p0.nodes.length c1], .agg #[.int .i64 p1.key.pfs, .int .i64 p1.key.obj, .int .i64 p1.key.off, .int .i64 p1.made], .int .i64 1] (by kernel_rfl) (fun _ => by kernel_rfl) (fun w' hh => find_From_l F p0 p1 1 r5 hb5 w' A1 c1 (SlOk.mono (SlOk.mono hs1 (View.le_trans (View.le_trans (View.le_trans hV1 hV2) hV3) hV4)) hh.view)) ?_)
   intro u V5 hV5 hu
   obtain ⟨u3, u4, rfl, hu3, hu4⟩ := vT2_elim hu
   obtain ⟨A4, c4, rfl, hs4⟩ := vlist_elim hu3
   obtain rfl := sureInt _ _ _ hu4
   refine T.pure (.tuple #[.slice A4 r5.1.length c4, .int .i64 r5.2]) (by kernel_rfl) (fun _ => by kernel_rfl) ?_
   refine T.pure (.slice A4 r5.1.length c4) (by kernel_rfl) (fun _ => by kernel_rfl) ?_
   refine T.pure (.int .i64 r5.2) (by kernel_rfl) (fun _ => by kernel_rfl) ?_
   refine T.pure (.slice A4 r5.1.length c4) (by kernel_rfl) (fun _ => by kernel_rfl) ?_
   refine T.pure (.int .i64 r5.2) (by kernel_rfl) (fun _ => by kernel_rfl) ?_
   refine T.nil ?_
   refine T.seq ?_
   refine T.seq ?_
   refine T.region ?_
   refine T.look (.agg #[.int .i64 p0.root, .slice A1 p0.nodes.length c1]) (by kernel_rfl) (fun w' hh => exec_loadN (cs := [.int .i64 p0.root, .slice A1 p0.nodes.length c1]) rfl rfl (by kernel_rfl) (by kernel_rfl) (fun j u hj => (hh.box_at (i := 2) (cs := [.int .i64 p0.root, .slice A1 p0.nodes.length c1]) (by rfl) 0 j).trans (seg_at (n := 2) (by rfl) hj))) ?_
   obtain ⟨r6, hb6, hF⟩ := Option.bind_eq_some_iff.1 hF
   refine T.step (W1.call (vSc eInt) r6 22 #[.agg #[.int .i64 p0.root, .slice A1 p0.nodes.length c1]] (by kernel_rfl) (fun _ => by kernel_rfl) (fun w' hh => tree_Check_l F p0 r6 hb6 w' A1 c1 (SlOk.mono (SlOk.mono hs1 (View.le_trans (View.le_trans (View.le_trans (View.le_trans hV1 hV2) hV3) hV4) hV5)) hh.view)) ?_)
   intro u V6 hV6 hu
   obtain rfl := sureInt _ _ _ hu
   refine T.pure (.bool (r6 != 0)) (by kernel_rfl) (fun _ => by kernel_rfl) ?_
   refine T.nil ?_
   refine T.cond (r6 != 0) (by kernel_rfl) (by kernel_rfl) (fun hc2 => ?_) (fun hc2 => ?_)
   ·
    rw [hc2, cond_true] at hF
    refine T.cut (fun a w' => Fr 96 [(4, .bool ((r4.2 == r5.2) && ((r4.1 == (DElem.mk (DKey.mk 0 0 0) 0 0 (ByteArray.mk #[]))) && ((r5.1.length : Int) == 0))))] a ∧ Hp w V6 [] w') ?_ ?_
    ·
     refine T.region ?_
     refine T.pure (.int .i64 r4.2) (by kernel_rfl) (fun _ => by kernel_rfl) ?_
     refine T.pure (.int .i64 r5.2) (by kernel_rfl) (fun _ => by kernel_rfl) ?_
     refine T.pure (.bool (r4.2 == r5.2)) (by kernel_rfl) (fun _ => by kernel_rfl) ?_
     refine T.pure (.bool (r4.2 == r5.2)) (by kernel_rfl) (fun _ => by kernel_rfl) ?_
     cases hg2 : (r4.2 == r5.2)
     ·
      skip
      refine T.pass (by kernel_rfl) (by kernel_rfl) ?_
      refine T.pass (by kernel_rfl) (by kernel_rfl) ?_
      refine T.pass (by kernel_rfl) (by kernel_rfl) ?_
      refine T.pure (.bool false) (by kernel_rfl) (fun _ => by kernel_rfl) ?_
      refine T.pure (.bool false) (by kernel_rfl) (fun _ => by kernel_rfl) ?_
      refine T.pass (by kernel_rfl) (by kernel_rfl) ?_
      refine T.pass (by kernel_rfl) (by kernel_rfl) ?_
      refine T.pass (by kernel_rfl) (by kernel_rfl) ?_
      refine T.pure (.bool false) (by kernel_rfl) (fun _ => by kernel_rfl) ?_
      refine T.pure (.bool false) (by kernel_rfl) (fun _ => by kernel_rfl) ?_
      refine T.nil ?_
      exact fun a w' hf hh => And.intro ((Fr.nil hf).pick hf 4 rfl) (hh.sub (.cons _ (.cons _ (.cons _ List.Sublist.slnil))))
     ·
      skip
      refine T.look (.agg #[.int .i64 r4.1.key.pfs, .int .i64 r4.1.key.obj, .int .i64 r4.1.key.off, .int .i64 r4.1.made, .int .i64 r4.1.gone, .string r4.1.val]) (by kernel_rfl) (fun w' hh => exec_loadN (cs := [.int .i64 r4.1.key.pfs, .int .i64 r4.1.key.obj, .int .i64 r4.1.key.off, .int .i64 r4.1.made, .int .i64 r4.1.gone, .string r4.1.val]) rfl rfl (by kernel_rfl) (by kernel_rfl) (fun j u hj => (hh.box_at (i := 0) (cs := [.int .i64 r4.1.key.pfs, .int .i64 r4.1.key.obj, .int .i64 r4.1.key.off, .int .i64 r4.1.made, .int .i64 r4.1.gone, .string r4.1.val]) (by rfl) 0 j).trans (seg_at (n := 6) (by rfl) hj))) ?_
      refine T.pure (.agg #[.int .i64 0, .int .i64 0, .int .i64 0, .int .i64 0, .int .i64 0, .string (ByteArray.mk #[])]) (by kernel_rfl) (fun _ => by kernel_rfl) ?_
      refine T.look (.bool (r4.1 == (DElem.mk (DKey.mk 0 0 0) 0 0 (ByteArray.mk #[])))) (by kernel_rfl) (fun w' hh => exec_eql_DElem r4.1 (DElem.mk (DKey.mk 0 0 0) 0 0 (ByteArray.mk #[])) w' rfl rfl rfl) ?_
      refine T.pure (.bool (r4.1 == (DElem.mk (DKey.mk 0 0 0) 0 0 (ByteArray.mk #[])))) (by kernel_rfl) (fun _ => by kernel_rfl) ?_
      refine T.pure (.bool (r4.1 == (DElem.mk (DKey.mk 0 0 0) 0 0 (ByteArray.mk #[])))) (by kernel_rfl) (fun _ => by kernel_rfl) ?_
      cases hg3 : (r4.1 == (DElem.mk (DKey.mk 0 0 0) 0 0 (ByteArray.mk #[])))
      ·
       skip
       refine T.pass (by kernel_rfl) (by kernel_rfl) ?_
       refine T.pass (by kernel_rfl) (by kernel_rfl) ?_
       refine T.pass (by kernel_rfl) (by kernel_rfl) ?_
       refine T.pure (.bool false) (by kernel_rfl) (fun _ => by kernel_rfl) ?_
       refine T.pure (.bool false) (by kernel_rfl) (fun _ => by kernel_rfl) ?_
       refine T.nil ?_
       exact fun a w' hf hh => And.intro ((Fr.nil hf).pick hf 4 rfl) (hh.sub (.cons _ (.cons _ (.cons _ List.Sublist.slnil))))
      ·
       skip
       refine T.pure (.slice A4 r5.1.length c4) (by kernel_rfl) (fun _ => by kernel_rfl) ?_
       refine T.pure (.int .i64 (r5.1.length : Int)) (by kernel_rfl) (fun _ => by kernel_rfl) ?_
       refine T.pure (.bool ((r5.1.length : Int) == 0)) (by kernel_rfl) (fun _ => by kernel_rfl) ?_
       refine T.pure (.bool ((r5.1.length : Int) == 0)) (by kernel_rfl) (fun _ => by kernel_rfl) ?_
       refine T.pure (.bool ((r5.1.length : Int) == 0)) (by kernel_rfl) (fun _ => by kernel_rfl) ?_
       refine T.nil ?_
       exact fun a w' hf hh => And.intro ((Fr.nil hf).pick hf 4 rfl) (hh.sub (.cons _ (.cons _ (.cons _ List.Sublist.slnil))))
    ·
     rintro a w' ⟨hf, hh⟩
     refine (?_ : T 96 w V6 [] [(4, .bool ((r4.2 == r5.2) && ((r4.1 == (DElem.mk (DKey.mk 0 0 0) 0 0 (ByteArray.mk #[]))) && ((r5.1.length : Int) == 0))))] _) a w' hf hh
     clear hf hh
     cases hF
     refine T.ret rfl ?_
     exact T.ret1 rfl (ResIs.tmp rfl) fun w' hh => ⟨_, rfl, hh.below, (show _ from rfl)⟩
   ·
    rw [hc2, cond_false] at hF
    refine T.skip_code ?_
    refine T.seq ?_
    refine T.seq ?_
    refine T.region ?_
    refine T.pure (.int .i64 r4.2) (by kernel_rfl) (fun _ => by kernel_rfl) ?_
    refine T.pure (.bool (r4.2 != 0)) (by kernel_rfl) (fun _ => by kernel_rfl) ?_
    refine T.nil ?_
    refine T.cond (r4.2 != 0) (by kernel_rfl) (by kernel_rfl) (fun hc3 => ?_) (fun hc3 => ?_)
    ·
     rw [hc3, cond_true] at hF
     obtain ⟨z1, hX1, hF⟩ := Option.bind_eq_some_iff.1 hF
     refine T.cut (fun a w' => Fr 96 [(4, .bool z1)] a ∧ Hp w V6 [] w') ?_ ?_
     ·
      refine T.quiet (by kernel_rfl) (by kernel_rfl) ?_
      refine TQ.pure (.int .i64 r4.2) (by kernel_rfl) (fun _ => by kernel_rfl) ?_
      refine TQ.pure (.bool (r4.2 == 4)) (by kernel_rfl) (fun _ => by kernel_rfl) ?_
      refine TQ.pure (.bool (r4.2 == 4)) (by kernel_rfl) (fun _ => by kernel_rfl) ?_
      cases hg4 : (r4.2 == 4)
      ·
       skip
       rw [hg4, cond_false] at hX1
       refine TQ.pass (by kernel_rfl) (by kernel_rfl) ?_
       refine TQ.pass (by kernel_rfl) (by kernel_rfl) ?_
       refine TQ.pure (.bool false) (by kernel_rfl) (fun _ => by kernel_rfl) ?_
       refine TQ.pure (.bool false) (by kernel_rfl) (fun _ => by kernel_rfl) ?_
       refine TQ.pass (by kernel_rfl) (by kernel_rfl) ?_
       refine TQ.pass (by kernel_rfl) (by kernel_rfl) ?_
       refine TQ.pass (by kernel_rfl) (by kernel_rfl) ?_
       refine TQ.pass (by kernel_rfl) (by kernel_rfl) ?_
       refine TQ.pass (by kernel_rfl) (by kernel_rfl) ?_
       refine TQ.pass (by kernel_rfl) (by kernel_rfl) ?_
       refine TQ.pass (by kernel_rfl) (by kernel_rfl) ?_
       refine TQ.pass (by kernel_rfl) (by kernel_rfl) ?_
       refine TQ.pass (by kernel_rfl) (by kernel_rfl) ?_
       refine TQ.pass (by kernel_rfl) (by kernel_rfl) ?_
       refine TQ.pass (by kernel_rfl) (by kernel_rfl) ?_
       refine TQ.pass (by kernel_rfl) (by kernel_rfl) ?_
       refine TQ.pure (.bool false) (by kernel_rfl) (fun _ => by kernel_rfl) ?_
       refine TQ.pure (.bool false) (by kernel_rfl) (fun _ => by kernel_rfl) ?_
       refine TQ.nil ?_
       cases hX1
       exact fun a w' hf hh => And.intro ((Fr.nil hf).pick hf 4 rfl) (hh.sub (.cons _ (.cons _ (.cons _ List.Sublist.slnil))))
      ·
       skip
       rw [hg4, cond_true] at hX1
       refine TQ.pure (.int .i64 r5.2) (by kernel_rfl) (fun _ => by kernel_rfl) ?_
       refine TQ.pure (.bool (r5.2 == 0)) (by kernel_rfl) (fun _ => by kernel_rfl) ?_
       refine TQ.pure (.bool (r5.2 == 0)) (by kernel_rfl) (fun _ => by kernel_rfl) ?_
       refine TQ.pure (.bool (r5.2 == 0)) (by kernel_rfl) (fun _ => by kernel_rfl) ?_
       cases hg5 : (r5.2 == 0)
       ·
        skip
        rw [hg5, cond_false] at hX1
        refine TQ.pass (by kernel_rfl) (by kernel_rfl) ?_
        refine TQ.pass (by kernel_rfl) (by kernel_rfl) ?_
        refine TQ.pass (by kernel_rfl) (by kernel_rfl) ?_
        refine TQ.pass (by kernel_rfl) (by kernel_rfl) ?_
        refine TQ.pass (by kernel_rfl) (by kernel_rfl) ?_
        refine TQ.pass (by kernel_rfl) (by kernel_rfl) ?_
        refine TQ.pass (by kernel_rfl) (by kernel_rfl) ?_
        refine TQ.pass (by kernel_rfl) (by kernel_rfl) ?_
        refine TQ.pass (by kernel_rfl) (by kernel_rfl) ?_
        refine TQ.pass (by kernel_rfl) (by kernel_rfl) ?_
        refine TQ.pass (by kernel_rfl) (by kernel_rfl) ?_
        refine TQ.pass (by kernel_rfl) (by kernel_rfl) ?_
        refine TQ.pure (.bool false) (by kernel_rfl) (fun _ => by kernel_rfl) ?_
        refine TQ.pure (.bool false) (by kernel_rfl) (fun _ => by kernel_rfl) ?_
        refine TQ.nil ?_
        cases hX1
        exact fun a w' hf hh => And.intro ((Fr.nil hf).pick hf 4 rfl) (hh.sub (.cons _ (.cons _ (.cons _ List.Sublist.slnil))))
       ·
        skip
        rw [hg5, cond_true] at hX1
        refine TQ.pure (.slice A4 r5.1.length c4) (by kernel_rfl) (fun _ => by kernel_rfl) ?_
        refine TQ.pure (.int .i64 (r5.1.length : Int)) (by kernel_rfl) (fun _ => by kernel_rfl) ?_
        refine TQ.pure (.bool ((r5.1.length : Int) == 0)) (by kernel_rfl) (fun _ => by kernel_rfl) ?_
        refine TQ.pure (.bool ((r5.1.length : Int) == 0)) (by kernel_rfl) (fun _ => by kernel_rfl) ?_
        cases hg6 : ((r5.1.length : Int) == 0)
        ·
         skip
         rw [hg6, cond_false] at hX1
         refine TQ.look (.agg #[.int .i64 p1.key.pfs, .int .i64 p1.key.obj, .int .i64 p1.key.off, .int .i64 p1.made]) (by kernel_rfl) (fun w' hh => exec_loadN (cs := [.int .i64 p1.key.pfs, .int .i64 p1.key.obj, .int .i64 p1.key.off, .int .i64 p1.made]) rfl rfl (by kernel_rfl) (by kernel_rfl) (fun j u hj => (hh.box_at (i := 1) (cs := [.int .i64 p1.key.pfs, .int .i64 p1.key.obj, .int .i64 p1.key.off, .int .i64 p1.made]) (by rfl) 0 j).trans (seg_at (n := 4) (by rfl) hj))) ?_
         refine TQ.pure (.slice A4 r5.1.length c4) (by kernel_rfl) (fun _ => by kernel_rfl) ?_
         obtain ⟨e1, hb7, hX1⟩ := Option.bind_eq_some_iff.1 hX1
         obtain ⟨hi1, hi2, hi3⟩ := idx_some hb7
         refine TQ.look (.pointer (some ((sadr A4).add (((0 : Int).toNat) * 6)))) (by kernel_rfl) (fun w' hh => exec_indexAddr (e := 39) (s := 6) rfl rfl rfl (by kernel_rfl) (by kernel_rfl) hi1 hi2 ((SlOk.mono hs4 (View.le_trans (made_le _ _) hV6)).some_ hi3 (by decide))) ?_
         refine TQ.look (.agg #[.int .i64 e1.key.pfs, .int .i64 e1.key.obj, .int .i64 e1.key.off, .int .i64 e1.made, .int .i64 e1.gone, .string e1.val]) (by kernel_rfl) (fun w' hh => exec_loadN (cs := [.int .i64 e1.key.pfs, .int .i64 e1.key.obj, .int .i64 e1.key.off, .int .i64 e1.made, .int .i64 e1.gone, .string e1.val]) rfl rfl (by kernel_rfl) (by kernel_rfl) (fun j u hj => (hh.cell_view (SlOk.cellF (E := eElem) (SlOk.mono hs4 (View.le_trans (made_le _ _) hV6)) hi3 j (fun _ _ _ h => h) hj)))) ?_
         obtain ⟨r7, hb8, hX1⟩ := Option.bind_eq_some_iff.1 hX1
         refine TQ.call (vAg eSpot) r7 15 #[.agg #[.int .i64 e1.key.pfs, .int .i64 e1.key.obj, .int .i64 e1.key.off, .int .i64 e1.made, .int .i64 e1.gone, .string e1.val]] (.agg #[.int .i64 r7.key.pfs, .int .i64 r7.key.obj, .int .i64 r7.key.off, .int .i64 r7.made]) (fun V u hu => sureSpot V u _ hu) (by kernel_rfl) (fun _ => by kernel_rfl) (fun w' hh => elem_Spot_l e1 r7 hb8 w' ) ?_
         obtain ⟨r8, hb9, hX1⟩ := Option.bind_eq_some_iff.1 hX1
         refine TQ.call (vSc eInt) r8 14 #[.agg #[.int .i64 p1.key.pfs, .int .i64 p1.key.obj, .int .i64 p1.key.off, .int .i64 p1.made], .agg #[.int .i64 r7.key.pfs, .int .i64 r7.key.obj, .int .i64 r7.key.off, .int .i64 r7.made]] (.int .i64 r8) (fun V u hu => sureInt V u _ hu) (by kernel_rfl) (fun _ => by kernel_rfl) (fun w' hh => key_CmpSpot_l p1 r7 r8 hb9 w' ) ?_
         refine TQ.pure (.bool (decide (r8 < 0))) (by kernel_rfl) (fun _ => by kernel_rfl) ?_
         refine TQ.pure (.bool (decide (r8 < 0))) (by kernel_rfl) (fun _ => by kernel_rfl) ?_
         refine TQ.pure (.bool (decide (r8 < 0))) (by kernel_rfl) (fun _ => by kernel_rfl) ?_
         refine TQ.pure (.bool (decide (r8 < 0))) (by kernel_rfl) (fun _ => by kernel_rfl) ?_
         refine TQ.nil ?_
         cases hX1
         exact fun a w' hf hh => And.intro ((Fr.nil hf).pick hf 4 rfl) (hh.sub (.cons _ (.cons _ (.cons _ List.Sublist.slnil))))
        ·
         skip
         rw [hg6, cond_true] at hX1
         refine TQ.pass (by kernel_rfl) (by kernel_rfl) ?_
         refine TQ.pass (by kernel_rfl) (by kernel_rfl) ?_
         refine TQ.pass (by kernel_rfl) (by kernel_rfl) ?_
         refine TQ.pass (by kernel_rfl) (by kernel_rfl) ?_
         refine TQ.pass (by kernel_rfl) (by kernel_rfl) ?_
         refine TQ.pass (by kernel_rfl) (by kernel_rfl) ?_
         refine TQ.pass (by kernel_rfl) (by kernel_rfl) ?_
         refine TQ.pure (.bool true) (by kernel_rfl) (fun _ => by kernel_rfl) ?_
         refine TQ.pure (.bool true) (by kernel_rfl) (fun _ => by kernel_rfl) ?_
         refine TQ.pure (.bool true) (by kernel_rfl) (fun _ => by kernel_rfl) ?_
         refine TQ.nil ?_
         cases hX1
         exact fun a w' hf hh => And.intro ((Fr.nil hf).pick hf 4 rfl) (hh.sub (.cons _ (.cons _ (.cons _ List.Sublist.slnil))))
     ·
      rintro a w' ⟨hf, hh⟩
      refine (?_ : T 96 w V6 [] [(4, .bool z1)] _) a w' hf hh
      clear hf hh
      cases hF
      refine T.ret rfl ?_
      exact T.ret1 rfl (ResIs.tmp rfl) fun w' hh => ⟨_, rfl, hh.below, (show _ from rfl)⟩
    ·
     rw [hc3, cond_false] at hF
     refine T.skip_code ?_
     obtain ⟨z2, hX2, hF⟩ := Option.bind_eq_some_iff.1 hF
     refine T.cut (fun a w' => Fr 96 [(4, .bool z2)] a ∧ Hp w V6 [] w') ?_ ?_
     ·
      refine T.quiet (by kernel_rfl) (by kernel_rfl) ?_
      refine TQ.pure (.int .i64 r5.2) (by kernel_rfl) (fun _ => by kernel_rfl) ?_
      refine TQ.pure (.bool (r5.2 == 0)) (by kernel_rfl) (fun _ => by kernel_rfl) ?_
      refine TQ.pure (.bool (r5.2 == 0)) (by kernel_rfl) (fun _ => by kernel_rfl) ?_
      cases hg7 : (r5.2 == 0)
      ·
       skip
       rw [hg7, cond_false] at hX2
       refine TQ.pass (by kernel_rfl) (by kernel_rfl) ?_
       refine TQ.pass (by kernel_rfl) (by kernel_rfl) ?_
       refine TQ.pass (by kernel_rfl) (by kernel_rfl) ?_
       refine TQ.pure (.bool false) (by kernel_rfl) (fun _ => by kernel_rfl) ?_
       refine TQ.pure (.bool false) (by kernel_rfl) (fun _ => by kernel_rfl) ?_
       refine TQ.pass (by kernel_rfl) (by kernel_rfl) ?_
       refine TQ.pass (by kernel_rfl) (by kernel_rfl) ?_
       refine TQ.pass (by kernel_rfl) (by kernel_rfl) ?_
       refine TQ.pass (by kernel_rfl) (by kernel_rfl) ?_
       refine TQ.pass (by kernel_rfl) (by kernel_rfl) ?_
       refine TQ.pure (.bool false) (by kernel_rfl) (fun _ => by kernel_rfl) ?_
       refine TQ.pure (.bool false) (by kernel_rfl) (fun _ => by kernel_rfl) ?_
       refine TQ.pass (by kernel_rfl) (by kernel_rfl) ?_
       refine TQ.pass (by kernel_rfl) (by kernel_rfl) ?_
       refine TQ.pass (by kernel_rfl) (by kernel_rfl) ?_
       refine TQ.pass (by kernel_rfl) (by kernel_rfl) ?_
       refine TQ.pure (.bool false) (by kernel_rfl) (fun _ => by kernel_rfl) ?_
       refine TQ.pure (.bool false) (by kernel_rfl) (fun _ => by kernel_rfl) ?_
       refine TQ.nil ?_
       cases hX2
       exact fun a w' hf hh => And.intro ((Fr.nil hf).pick hf 4 rfl) (hh.sub (.cons _ (.cons _ (.cons _ List.Sublist.slnil))))
      ·
       skip
       rw [hg7, cond_true] at hX2
       refine TQ.pure (.slice A4 r5.1.length c4) (by kernel_rfl) (fun _ => by kernel_rfl) ?_
       refine TQ.pure (.int .i64 (r5.1.length : Int)) (by kernel_rfl) (fun _ => by kernel_rfl) ?_
       refine TQ.pure (.bool ((r5.1.length : Int) == 1)) (by kernel_rfl) (fun _ => by kernel_rfl) ?_
       refine TQ.pure (.bool ((r5.1.length : Int) == 1)) (by kernel_rfl) (fun _ => by kernel_rfl) ?_
       refine TQ.pure (.bool ((r5.1.length : Int) == 1)) (by kernel_rfl) (fun _ => by kernel_rfl) ?_
       cases hg8 : ((r5.1.length : Int) == 1)
       ·
        skip
        rw [hg8, cond_false] at hX2
        refine TQ.pass (by kernel_rfl) (by kernel_rfl) ?_
        refine TQ.pass (by kernel_rfl) (by kernel_rfl) ?_
        refine TQ.pass (by kernel_rfl) (by kernel_rfl) ?_
        refine TQ.pass (by kernel_rfl) (by kernel_rfl) ?_
        refine TQ.pass (by kernel_rfl) (by kernel_rfl) ?_
        refine TQ.pure (.bool false) (by kernel_rfl) (fun _ => by kernel_rfl) ?_
        refine TQ.pure (.bool false) (by kernel_rfl) (fun _ => by kernel_rfl) ?_
        refine TQ.pass (by kernel_rfl) (by kernel_rfl) ?_
        refine TQ.pass (by kernel_rfl) (by kernel_rfl) ?_
        refine TQ.pass (by kernel_rfl) (by kernel_rfl) ?_
        refine TQ.pass (by kernel_rfl) (by kernel_rfl) ?_
        refine TQ.pure (.bool false) (by kernel_rfl) (fun _ => by kernel_rfl) ?_
        refine TQ.pure (.bool false) (by kernel_rfl) (fun _ => by kernel_rfl) ?_
        refine TQ.nil ?_
        cases hX2
        exact fun a w' hf hh => And.intro ((Fr.nil hf).pick hf 4 rfl) (hh.sub (.cons _ (.cons _ (.cons _ List.Sublist.slnil))))
       ·
        skip
        rw [hg8, cond_true] at hX2
        refine TQ.pure (.slice A4 r5.1.length c4) (by kernel_rfl) (fun _ => by kernel_rfl) ?_
        obtain ⟨e2, hb10, hX2⟩ := Option.bind_eq_some_iff.1 hX2
        obtain ⟨hi4, hi5, hi6⟩ := idx_some hb10
        refine TQ.look (.pointer (some ((sadr A4).add (((0 : Int).toNat) * 6)))) (by kernel_rfl) (fun w' hh => exec_indexAddr (e := 39) (s := 6) rfl rfl rfl (by kernel_rfl) (by kernel_rfl) hi4 hi5 ((SlOk.mono hs4 (View.le_trans (made_le _ _) hV6)).some_ hi6 (by decide))) ?_
        refine TQ.look (.agg #[.int .i64 e2.key.pfs, .int .i64 e2.key.obj, .int .i64 e2.key.off, .int .i64 e2.made, .int .i64 e2.gone, .string e2.val]) (by kernel_rfl) (fun w' hh => exec_loadN (cs := [.int .i64 e2.key.pfs, .int .i64 e2.key.obj, .int .i64 e2.key.off, .int .i64 e2.made, .int .i64 e2.gone, .string e2.val]) rfl rfl (by kernel_rfl) (by kernel_rfl) (fun j u hj => (hh.cell_view (SlOk.cellF (E := eElem) (SlOk.mono hs4 (View.le_trans (made_le _ _) hV6)) hi6 j (fun _ _ _ h => h) hj)))) ?_
        refine TQ.look (.agg #[.int .i64 r4.1.key.pfs, .int .i64 r4.1.key.obj, .int .i64 r4.1.key.off, .int .i64 r4.1.made, .int .i64 r4.1.gone, .string r4.1.val]) (by kernel_rfl) (fun w' hh => exec_loadN (cs := [.int .i64 r4.1.key.pfs, .int .i64 r4.1.key.obj, .int .i64 r4.1.key.off, .int .i64 r4.1.made, .int .i64 r4.1.gone, .string r4.1.val]) rfl rfl (by kernel_rfl) (by kernel_rfl) (fun j u hj => (hh.box_at (i := 0) (cs := [.int .i64 r4.1.key.pfs, .int .i64 r4.1.key.obj, .int .i64 r4.1.key.off, .int .i64 r4.1.made, .int .i64 r4.1.gone, .string r4.1.val]) (by rfl) 0 j).trans (seg_at (n := 6) (by rfl) hj))) ?_
        refine TQ.look (.bool (e2 == r4.1)) (by kernel_rfl) (fun w' hh => exec_eql_DElem e2 r4.1 w' rfl rfl rfl) ?_
        refine TQ.pure (.bool (e2 == r4.1)) (by kernel_rfl) (fun _ => by kernel_rfl) ?_
        refine TQ.pure (.bool (e2 == r4.1)) (by kernel_rfl) (fun _ => by kernel_rfl) ?_
        cases hg9 : (e2 == r4.1)
        ·
         skip
         rw [hg9, cond_false] at hX2
         refine TQ.pass (by kernel_rfl) (by kernel_rfl) ?_
         refine TQ.pass (by kernel_rfl) (by kernel_rfl) ?_
         refine TQ.pass (by kernel_rfl) (by kernel_rfl) ?_
         refine TQ.pass (by kernel_rfl) (by kernel_rfl) ?_
         refine TQ.pure (.bool false) (by kernel_rfl) (fun _ => by kernel_rfl) ?_
         refine TQ.pure (.bool false) (by kernel_rfl) (fun _ => by kernel_rfl) ?_
         refine TQ.nil ?_
         cases hX2
         exact fun a w' hf hh => And.intro ((Fr.nil hf).pick hf 4 rfl) (hh.sub (.cons _ (.cons _ (.cons _ List.Sublist.slnil))))
        ·
         skip
         rw [hg9, cond_true] at hX2
         refine TQ.look (.agg #[.int .i64 r4.1.key.pfs, .int .i64 r4.1.key.obj, .int .i64 r4.1.key.off, .int .i64 r4.1.made, .int .i64 r4.1.gone, .string r4.1.val]) (by kernel_rfl) (fun w' hh => exec_loadN (cs := [.int .i64 r4.1.key.pfs, .int .i64 r4.1.key.obj, .int .i64 r4.1.key.off, .int .i64 r4.1.made, .int .i64 r4.1.gone, .string r4.1.val]) rfl rfl (by kernel_rfl) (by kernel_rfl) (fun j u hj => (hh.box_at (i := 0) (cs := [.int .i64 r4.1.key.pfs, .int .i64 r4.1.key.obj, .int .i64 r4.1.key.off, .int .i64 r4.1.made, .int .i64 r4.1.gone, .string r4.1.val]) (by rfl) 0 j).trans (seg_at (n := 6) (by rfl) hj))) ?_
         obtain ⟨r9, hb11, hX2⟩ := Option.bind_eq_some_iff.1 hX2
         refine TQ.call (vAg eSpot) r9 15 #[.agg #[.int .i64 r4.1.key.pfs, .int .i64 r4.1.key.obj, .int .i64 r4.1.key.off, .int .i64 r4.1.made, .int .i64 r4.1.gone, .string r4.1.val]] (.agg #[.int .i64 r9.key.pfs, .int .i64 r9.key.obj, .int .i64 r9.key.off, .int .i64 r9.made]) (fun V u hu => sureSpot V u _ hu) (by kernel_rfl) (fun _ => by kernel_rfl) (fun w' hh => elem_Spot_l r4.1 r9 hb11 w' ) ?_
         refine TQ.look (.agg #[.int .i64 p1.key.pfs, .int .i64 p1.key.obj, .int .i64 p1.key.off, .int .i64 p1.made]) (by kernel_rfl) (fun w' hh => exec_loadN (cs := [.int .i64 p1.key.pfs, .int .i64 p1.key.obj, .int .i64 p1.key.off, .int .i64 p1.made]) rfl rfl (by kernel_rfl) (by kernel_rfl) (fun j u hj => (hh.box_at (i := 1) (cs := [.int .i64 p1.key.pfs, .int .i64 p1.key.obj, .int .i64 p1.key.off, .int .i64 p1.made]) (by rfl) 0 j).trans (seg_at (n := 4) (by rfl) hj))) ?_
         refine TQ.look (.bool (r9 == p1)) (by kernel_rfl) (fun w' hh => exec_eql_DSpot r9 p1 w' rfl rfl rfl) ?_
         refine TQ.pure (.bool (r9 == p1)) (by kernel_rfl) (fun _ => by kernel_rfl) ?_
         refine TQ.pure (.bool (r9 == p1)) (by kernel_rfl) (fun _ => by kernel_rfl) ?_
         refine TQ.nil ?_
         cases hX2
         exact fun a w' hf hh => And.intro ((Fr.nil hf).pick hf 4 rfl) (hh.sub (.cons _ (.cons _ (.cons _ List.Sublist.slnil))))
     ·
      rintro a w' ⟨hf, hh⟩
      refine (?_ : T 96 w V6 [] [(4, .bool z2)] _) a w' hf hh
      clear hf hh
      cases hF
      refine T.ret rfl ?_
      exact T.ret1 rfl (ResIs.tmp rfl) fun w' hh => ⟨_, rfl, hh.below, (show _ from rfl)⟩

end Go.Proofs.Ytoaopihihccfkaa
