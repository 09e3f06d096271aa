/- The Go functions of group WBuildFew compute the pure functions of that group: written by walkgen.py. Condition of each: the pure function yields a result. -/
import Derived.Test.YtoaopihihccfkaaPackL
import Derived.Test.YtoaopihihccfkaaEqsL
import Derived.Test.YtoaopihihccfkaaWBuildFewF
import Derived.Test.YtoaopihihccfkaaEqL
namespace Go.Proofs.Ytoaopihihccfkaa
set_option linter.unusedVariables false

set_option maxRecDepth 100000 in
set_option maxHeartbeats 4000000 in
theorem annalkeep_BuildFew_l (F : Nat) (p0 : DTree) (r : Bool) (hF : annalkeep_BuildFew F p0 = some r) (w : World) (A1 : Option Addr) (c1 : Nat) (hs1 : SlOk (vw w) eNode A1 c1 p0.nodes) :
    Calls Try.prog 6 #[.agg #[.int .i64 p0.root, .slice A1 p0.nodes.length c1]] w (Post (vSc eBool) r w) := by
 unfold annalkeep_BuildFew at hF
 refine T.start (l := [.agg #[.int .i64 p0.root, .slice A1 p0.nodes.length c1]]) Try.func6 rfl rfl rfl ?_
 refine T.seq ?_
 refine T.region ?_
 refine T.step (W1.new 24 [.int .i64 p0.root, .slice A1 p0.nodes.length c1] (fun b => .pointer (some ⟨b, 0, none⟩)) (by kernel_rfl) (fun _ => by kernel_rfl) (fun b1 => ?_))
 refine T.pure (.bool false) (by kernel_rfl) (fun _ => by kernel_rfl) ?_
 refine T.nil ?_
 refine T.seq ?_
 refine T.seq ?_
 refine T.region ?_
 obtain ⟨r1, hb1, hF⟩ := Option.bind_eq_some_iff.1 hF
 refine T.step (W1.call (vSc eBool) r1 23 #[] (by kernel_rfl) (fun _ => by kernel_rfl) (fun w' hh => annalkeep_begun_l F r1 hb1 w' ) ?_)
 intro u V1 hV1 hu
 obtain rfl := sureBool _ _ _ hu
 refine T.pure (.bool (!r1)) (by kernel_rfl) (fun _ => by kernel_rfl) ?_
 refine T.nil ?_
 refine T.cond (!r1) (by kernel_rfl) (by kernel_rfl) (fun hc1 => ?_) (fun hc1 => ?_)
 ·
  rw [hc1, cond_true] at hF
  refine T.seq ?_
  refine T.region ?_
  refine T.pure (.bool false) (by kernel_rfl) (fun _ => by kernel_rfl) ?_
  refine T.nil ?_
  cases hF
  refine T.ret rfl ?_
  exact T.ret1 rfl (ResIs.tmp rfl) fun w' hh => ⟨_, rfl, hh.below, (show _ from rfl)⟩
 ·
  rw [hc1, cond_false] at hF
  refine T.skip_code ?_
  refine T.seq ?_
  refine T.region ?_
  refine T.look (.agg #[.int .i64 p0.root, .slice A1 p0.nodes.length c1]) (by kernel_rfl) (fun w' hh => exec_loadN (cs := [.int .i64 p0.root, .slice A1 p0.nodes.length c1]) rfl rfl (by kernel_rfl) (by kernel_rfl) (fun j u hj => (hh.box_at (i := 0) (cs := [.int .i64 p0.root, .slice A1 p0.nodes.length c1]) (by rfl) 0 j).trans (seg_at (n := 2) (by rfl) hj))) ?_
  obtain ⟨r2, hb2, hF⟩ := Option.bind_eq_some_iff.1 hF
  refine T.step (W1.call (vT2 (vSc (eList eElem)) (vSc eInt)) r2 13 #[.agg #[.int .i64 p0.root, .slice A1 p0.nodes.length c1]] (by kernel_rfl) (fun _ => by kernel_rfl) (fun w' hh => tree_All_l F p0 r2 hb2 w' A1 c1 (SlOk.mono (SlOk.mono hs1 hV1) hh.view)) ?_)
  intro u V2 hV2 hu
  obtain ⟨u1, u2, rfl, hu1, hu2⟩ := vT2_elim hu
  obtain ⟨A2, c2, rfl, hs2⟩ := vlist_elim hu1
  obtain rfl := sureInt _ _ _ hu2
  refine T.pure (.tuple #[.slice A2 r2.1.length c2, .int .i64 r2.2]) (by kernel_rfl) (fun _ => by kernel_rfl) ?_
  refine T.pure (.slice A2 r2.1.length c2) (by kernel_rfl) (fun _ => by kernel_rfl) ?_
  refine T.pure (.int .i64 r2.2) (by kernel_rfl) (fun _ => by kernel_rfl) ?_
  refine T.pure (.slice A2 r2.1.length c2) (by kernel_rfl) (fun _ => by kernel_rfl) ?_
  refine T.pure (.int .i64 r2.2) (by kernel_rfl) (fun _ => by kernel_rfl) ?_
  refine T.nil ?_
  refine T.seq ?_
  refine T.region ?_
  refine T.look (.agg #[.int .i64 p0.root, .slice A1 p0.nodes.length c1]) (by kernel_rfl) (fun w' hh => exec_loadN (cs := [.int .i64 p0.root, .slice A1 p0.nodes.length c1]) rfl rfl (by kernel_rfl) (by kernel_rfl) (fun j u hj => (hh.box_at (i := 0) (cs := [.int .i64 p0.root, .slice A1 p0.nodes.length c1]) (by rfl) 0 j).trans (seg_at (n := 2) (by rfl) hj))) ?_
  obtain ⟨r3, hb3, hF⟩ := Option.bind_eq_some_iff.1 hF
  refine T.step (W1.call (vT2 (vAg eTree) (vSc eInt)) r3 24 #[.agg #[.int .i64 p0.root, .slice A1 p0.nodes.length c1]] (by kernel_rfl) (fun _ => by kernel_rfl) (fun w' hh => build_Pack_l F p0 r3 hb3 w' A1 c1 (SlOk.mono (SlOk.mono hs1 (View.le_trans hV1 hV2)) hh.view)) ?_)
  intro u V3 hV3 hu
  obtain ⟨u3, u4, rfl, hu3, hu4⟩ := vT2_elim hu
  obtain ⟨cs1, rfl, hr1⟩ := vagg_elim hu3
  obtain ⟨A3, c3, rfl, hs3⟩ := hr1
  obtain rfl := sureInt _ _ _ hu4
  refine T.pure (.tuple #[.agg #[.int .i64 r3.1.root, .slice A3 r3.1.nodes.length c3], .int .i64 r3.2]) (by kernel_rfl) (fun _ => by kernel_rfl) ?_
  refine T.pure (.agg #[.int .i64 r3.1.root, .slice A3 r3.1.nodes.length c3]) (by kernel_rfl) (fun _ => by kernel_rfl) ?_
  refine T.pure (.int .i64 r3.2) (by kernel_rfl) (fun _ => by kernel_rfl) ?_
  refine T.step (W1.new 24 [.int .i64 0, .slice none 0 0] (fun b => .pointer (some ⟨b, 0, none⟩)) (by kernel_rfl) (fun _ => by kernel_rfl) (fun b2 => ?_))
  refine T.step (W1.store 0 [.int .i64 r3.1.root, .slice A3 r3.1.nodes.length c3] [box b2 24 [.int .i64 r3.1.root, .slice A3 r3.1.nodes.length c3], box b1 24 [.int .i64 p0.root, .slice A1 p0.nodes.length c1]] (by rfl) rfl (by kernel_rfl) (fun w' hw => exec_store (vs := [.int .i64 r3.1.root, .slice A3 r3.1.nodes.length c3]) rfl rfl rfl rfl (by kernel_rfl) (one_of rfl) (by simp) rfl hw) ?_)
  refine T.pure (.int .i64 r3.2) (by kernel_rfl) (fun _ => by kernel_rfl) ?_
  refine T.nil ?_
  refine T.seq ?_
  refine T.cut (fun a w' => Fr 90 [(1, .pointer (some ⟨b1, 0, none⟩)), (3, .slice A2 r2.1.length c2), (5, .pointer (some ⟨b2, 0, none⟩)), (31, .bool ((r2.2 != 0) || (r3.2 != 0)))] a ∧ Hp w V3 [box b2 24 [.int .i64 r3.1.root, .slice A3 r3.1.nodes.length c3], box b1 24 [.int .i64 p0.root, .slice A1 p0.nodes.length c1]] w') ?_ ?_
  ·
   refine T.region ?_
   refine T.pure (.int .i64 r2.2) (by kernel_rfl) (fun _ => by kernel_rfl) ?_
   refine T.pure (.bool (r2.2 != 0)) (by kernel_rfl) (fun _ => by kernel_rfl) ?_
   refine T.pure (.bool (r2.2 != 0)) (by kernel_rfl) (fun _ => by kernel_rfl) ?_
   cases hg1 : (r2.2 != 0)
   ·
    skip
    refine T.pure (.int .i64 r3.2) (by kernel_rfl) (fun _ => by kernel_rfl) ?_
    refine T.pure (.bool (r3.2 != 0)) (by kernel_rfl) (fun _ => by kernel_rfl) ?_
    refine T.pure (.bool (r3.2 != 0)) (by kernel_rfl) (fun _ => by kernel_rfl) ?_
    refine T.nil ?_
    exact fun a w' hf hh => And.intro (((((Fr.nil hf).pick hf 31 rfl).pick hf 5 rfl).pick hf 3 rfl).pick hf 1 rfl) (hh.sub (.cons_cons _ (.cons_cons _ List.Sublist.slnil)))
   ·
    skip
    refine T.pass (by kernel_rfl) (by kernel_rfl) ?_
    refine T.pass (by kernel_rfl) (by kernel_rfl) ?_
    refine T.pure (.bool true) (by kernel_rfl) (fun _ => by kernel_rfl) ?_
    refine T.nil ?_
    exact fun a w' hf hh => And.intro (((((Fr.nil hf).pick hf 31 rfl).pick hf 5 rfl).pick hf 3 rfl).pick hf 1 rfl) (hh.sub (.cons_cons _ (.cons_cons _ List.Sublist.slnil)))
  ·
   rintro a w' ⟨hf, hh⟩
   refine (?_ : T 90 w V3 [box b2 24 [.int .i64 r3.1.root, .slice A3 r3.1.nodes.length c3], box b1 24 [.int .i64 p0.root, .slice A1 p0.nodes.length c1]] [(1, .pointer (some ⟨b1, 0, none⟩)), (3, .slice A2 r2.1.length c2), (5, .pointer (some ⟨b2, 0, none⟩)), (31, .bool ((r2.2 != 0) || (r3.2 != 0)))] _) a w' hf hh
   clear hf hh
   refine T.cond ((r2.2 != 0) || (r3.2 != 0)) (by kernel_rfl) (by kernel_rfl) (fun hc2 => ?_) (fun hc2 => ?_)
   ·
    rw [hc2, cond_true] at hF
    refine T.seq ?_
    refine T.region ?_
    refine T.look (.agg #[.int .i64 r3.1.root, .slice A3 r3.1.nodes.length c3]) (by kernel_rfl) (fun w' hh => exec_loadN (cs := [.int .i64 r3.1.root, .slice A3 r3.1.nodes.length c3]) rfl rfl (by kernel_rfl) (by kernel_rfl) (fun j u hj => (hh.box_at (i := 0) (cs := [.int .i64 r3.1.root, .slice A3 r3.1.nodes.length c3]) (by rfl) 0 j).trans (seg_at (n := 2) (by rfl) hj))) ?_
    refine T.pure (.agg #[.int .i64 0, .slice none 0 0]) (by kernel_rfl) (fun _ => by kernel_rfl) ?_
    obtain ⟨r4, hb4, hF⟩ := Option.bind_eq_some_iff.1 hF
    refine T.step (W1.call (vSc eBool) r4 19 #[.agg #[.int .i64 r3.1.root, .slice A3 r3.1.nodes.length c3], .agg #[.int .i64 0, .slice none 0 0]] (by kernel_rfl) (fun _ => by kernel_rfl) (fun w' hh => annalref_SameTree_l F r3.1 (DTree.mk 0 []) r4 hb4 w' A3 c3 (SlOk.mono (SlOk.mono hs3 (View.le_trans (made_le _ _) (View.le_refl _))) hh.view) none 0 (SlOk.nil _ _)) ?_)
    intro u V4 hV4 hu
    obtain rfl := sureBool _ _ _ hu
    refine T.pure (.bool r4) (by kernel_rfl) (fun _ => by kernel_rfl) ?_
    refine T.nil ?_
    cases hF
    refine T.ret rfl ?_
    exact T.ret1 rfl (ResIs.tmp rfl) fun w' hh => ⟨_, rfl, hh.below, (show _ from rfl)⟩
   ·
    rw [hc2, cond_false] at hF
    refine T.skip_code ?_
    refine T.seq ?_
    refine T.region ?_
    refine T.look (.agg #[.int .i64 r3.1.root, .slice A3 r3.1.nodes.length c3]) (by kernel_rfl) (fun w' hh => exec_loadN (cs := [.int .i64 r3.1.root, .slice A3 r3.1.nodes.length c3]) rfl rfl (by kernel_rfl) (by kernel_rfl) (fun j u hj => (hh.box_at (i := 0) (cs := [.int .i64 r3.1.root, .slice A3 r3.1.nodes.length c3]) (by rfl) 0 j).trans (seg_at (n := 2) (by rfl) hj))) ?_
    obtain ⟨r5, hb5, hF⟩ := Option.bind_eq_some_iff.1 hF
    refine T.step (W1.call (vT2 (vSc (eList eElem)) (vSc eInt)) r5 13 #[.agg #[.int .i64 r3.1.root, .slice A3 r3.1.nodes.length c3]] (by kernel_rfl) (fun _ => by kernel_rfl) (fun w' hh => tree_All_l F r3.1 r5 hb5 w' A3 c3 (SlOk.mono (SlOk.mono hs3 (View.le_trans (made_le _ _) (View.le_refl _))) hh.view)) ?_)
    intro u V5 hV5 hu
    obtain ⟨u5, u6, rfl, hu5, hu6⟩ := vT2_elim hu
    obtain ⟨A4, c4, rfl, hs4⟩ := vlist_elim hu5
    obtain rfl := sureInt _ _ _ hu6
    refine T.pure (.tuple #[.slice A4 r5.1.length c4, .int .i64 r5.2]) (by kernel_rfl) (fun _ => by kernel_rfl) ?_
    refine T.pure (.slice A4 r5.1.length c4) (by kernel_rfl) (fun _ => by kernel_rfl) ?_
    refine T.pure (.int .i64 r5.2) (by kernel_rfl) (fun _ => by kernel_rfl) ?_
    refine T.pure (.slice A4 r5.1.length c4) (by kernel_rfl) (fun _ => by kernel_rfl) ?_
    refine T.pure (.int .i64 r5.2) (by kernel_rfl) (fun _ => by kernel_rfl) ?_
    refine T.nil ?_
    refine T.seq ?_
    refine T.region ?_
    refine T.pure (.int .i64 0) (by kernel_rfl) (fun _ => by kernel_rfl) ?_
    refine T.nil ?_
    refine T.seq ?_
    refine T.seq ?_
    refine T.region ?_
    refine T.pure (.pointer (some ⟨b1, 1, none⟩)) (by kernel_rfl) (fun _ => by kernel_rfl) ?_
    refine T.look (.slice A1 p0.nodes.length c1) (by kernel_rfl) (fun w' hh => exec_load1 rfl rfl (by kernel_rfl) (hh.cellBox (i := 1) (by rfl) 1)) ?_
    refine T.pure (.int .i64 (p0.nodes.length : Int)) (by kernel_rfl) (fun _ => by kernel_rfl) ?_
    refine T.pure (.int .i64 0) (by kernel_rfl) (fun _ => by kernel_rfl) ?_
    refine T.nil ?_
    obtain ⟨z1, hz1, hF⟩ := Option.bind_eq_some_iff.1 hF
    refine T.mid (fun a w' => Fr 90 [(1, .pointer (some ⟨b1, 0, none⟩)), (3, .slice A2 r2.1.length c2), (4, .int .i64 r5.2), (5, .pointer (some ⟨b2, 0, none⟩)), (7, .slice A4 r5.1.length c4), (8, .int .i64 z1)] a ∧ Hp w V5 [box b2 24 [.int .i64 r3.1.root, .slice A3 r3.1.nodes.length c3], box b1 24 [.int .i64 p0.root, .slice A1 p0.nodes.length c1]] w') ?_ ?_
    ·
     refine T.block ?_
     refine T.iter (fun s1 a w' => ∃ (x1 : Int) (x2 : Int), s1 = (x1, x2) ∧ Fr 90 [(1, .pointer (some ⟨b1, 0, none⟩)), (3, .slice A2 r2.1.length c2), (4, .int .i64 r5.2), (5, .pointer (some ⟨b2, 0, none⟩)), (7, .slice A4 r5.1.length c4), (8, .int .i64 x1), (41, .slice A1 p0.nodes.length c1), (42, .int .i64 (p0.nodes.length : Int)), (43, .int .i64 x2)] a ∧ Hp w V5 [box b2 24 [.int .i64 r3.1.root, .slice A3 r3.1.nodes.length c3], box b1 24 [.int .i64 p0.root, .slice A1 p0.nodes.length c1]] w') hz1 ?_ ?_
     ·
      exact fun a w' hf hh => Exists.intro 0 (Exists.intro 0 (And.intro rfl (And.intro ((((((((((Fr.nil hf).pick hf 43 rfl).pick hf 42 rfl).pick hf 41 rfl).pick hf 8 rfl).pick hf 7 rfl).pick hf 5 rfl).pick hf 4 rfl).pick hf 3 rfl).pick hf 1 rfl) (hh.sub (.cons_cons _ (.cons_cons _ List.Sublist.slnil))))))
     ·
      rintro s1 y1 hY1 hr2 a w' ⟨x1, x2, rfl, hf, hh⟩
      refine (?_ : T 90 w V5 [box b2 24 [.int .i64 r3.1.root, .slice A3 r3.1.nodes.length c3], box b1 24 [.int .i64 p0.root, .slice A1 p0.nodes.length c1]] [(1, .pointer (some ⟨b1, 0, none⟩)), (3, .slice A2 r2.1.length c2), (4, .int .i64 r5.2), (5, .pointer (some ⟨b2, 0, none⟩)), (7, .slice A4 r5.1.length c4), (8, .int .i64 x1), (41, .slice A1 p0.nodes.length c1), (42, .int .i64 (p0.nodes.length : Int)), (43, .int .i64 x2)] _) a w' hf hh
      clear hf hh
      try dsimp only at hY1
      refine T.seq ?_
      refine T.region ?_
      refine T.pure (.bool (decide (x2 < (p0.nodes.length : Int)))) (by kernel_rfl) (fun _ => by kernel_rfl) ?_
      refine T.nil ?_
      refine T.seq ?_
      refine T.cond (decide (x2 < (p0.nodes.length : Int))) (by kernel_rfl) (by kernel_rfl) (fun hc3 => ?_) (fun hc3 => ?_)
      ·
       rw [hc3, cond_true] at hY1
       refine T.skip_code ?_
       obtain ⟨z2, hX1, hY1⟩ := Option.bind_eq_some_iff.1 hY1
       refine T.cut (fun a w' => Fr 90 [(1, .pointer (some ⟨b1, 0, none⟩)), (3, .slice A2 r2.1.length c2), (4, .int .i64 r5.2), (5, .pointer (some ⟨b2, 0, none⟩)), (7, .slice A4 r5.1.length c4), (8, .int .i64 z2), (41, .slice A1 p0.nodes.length c1), (42, .int .i64 (p0.nodes.length : Int)), (43, .int .i64 x2)] a ∧ Hp w V5 [box b2 24 [.int .i64 r3.1.root, .slice A3 r3.1.nodes.length c3], box b1 24 [.int .i64 p0.root, .slice A1 p0.nodes.length c1]] w') ?_ ?_
       ·
        refine T.block ?_
        refine T.seq ?_
        refine T.region ?_
        obtain ⟨e1, hb6, hX1⟩ := Option.bind_eq_some_iff.1 hX1
        obtain ⟨hi1, hi2, hi3⟩ := idx_some hb6
        obtain ⟨cs2, hr3, hc4⟩ := SlOk.elem (SlOk.mono hs1 (View.le_trans (View.le_trans (View.le_trans hV1 hV2) hV3) hV5)) hi3
        obtain ⟨A5, c5, A6, c6, A7, c7, A8, c8, rfl, hs5, hs6, hs7, hs8⟩ := hr3
        refine T.look (.pointer (some ((sadr A1).add (x2.toNat * 5)))) (by kernel_rfl) (fun w' hh => exec_indexAddr (e := 57) (s := 5) rfl rfl rfl (by kernel_rfl) (by kernel_rfl) hi1 hi2 ((SlOk.mono hs1 (View.le_trans (View.le_trans (View.le_trans hV1 hV2) hV3) hV5)).some_ hi3 (by decide))) ?_
        refine T.look (.agg #[.int .i64 e1.kind, .slice A5 e1.elems.length c5, .slice A6 e1.kids.length c6, .slice A7 e1.seps.length c7, .slice A8 e1.tids.length c8]) (by kernel_rfl) (fun w' hh => exec_loadN (cs := [.int .i64 e1.kind, .slice A5 e1.elems.length c5, .slice A6 e1.kids.length c6, .slice A7 e1.seps.length c7, .slice A8 e1.tids.length c8]) rfl rfl (by kernel_rfl) (by kernel_rfl) (fun j u hj => hh.cell_view (View.cell_mono (View.le_refl _) (hc4 j u hj).2))) ?_
        refine T.step (W1.new 57 [.int .i64 0, .slice none 0 0, .slice none 0 0, .slice none 0 0, .slice none 0 0] (fun b => .pointer (some ⟨b, 0, none⟩)) (by kernel_rfl) (fun _ => by kernel_rfl) (fun b3 => ?_))
        refine T.step (W1.store 0 [.int .i64 e1.kind, .slice A5 e1.elems.length c5, .slice A6 e1.kids.length c6, .slice A7 e1.seps.length c7, .slice A8 e1.tids.length c8] [box b3 57 [.int .i64 e1.kind, .slice A5 e1.elems.length c5, .slice A6 e1.kids.length c6, .slice A7 e1.seps.length c7, .slice A8 e1.tids.length c8], box b2 24 [.int .i64 r3.1.root, .slice A3 r3.1.nodes.length c3], box b1 24 [.int .i64 p0.root, .slice A1 p0.nodes.length c1]] (by rfl) rfl (by kernel_rfl) (fun w' hw => exec_store (vs := [.int .i64 e1.kind, .slice A5 e1.elems.length c5, .slice A6 e1.kids.length c6, .slice A7 e1.seps.length c7, .slice A8 e1.tids.length c8]) rfl rfl rfl rfl (by kernel_rfl) (one_of rfl) (by simp) rfl hw) ?_)
        refine T.nil ?_
        refine T.seq ?_
        refine T.region ?_
        refine T.pure (.pointer (some ⟨b3, 0, none⟩)) (by kernel_rfl) (fun _ => by kernel_rfl) ?_
        refine T.look (.int .i64 e1.kind) (by kernel_rfl) (fun w' hh => exec_load1 rfl rfl (by kernel_rfl) (hh.cellBox (i := 0) (by rfl) 0)) ?_
        refine T.pure (.bool (e1.kind != 0)) (by kernel_rfl) (fun _ => by kernel_rfl) ?_
        refine T.nil ?_
        refine T.cond (e1.kind != 0) (by kernel_rfl) (by kernel_rfl) (fun hc5 => ?_) (fun hc5 => ?_)
        ·
         rw [hc5, cond_true] at hX1
         refine T.region ?_
         refine T.pure (.int .i64 x1) (by kernel_rfl) (fun _ => by kernel_rfl) ?_
         refine T.pure (.int .i64 (IntKind.i64.wrap (x1 + 1))) (by kernel_rfl) (fun _ => by kernel_rfl) ?_
         refine T.pure (.int .i64 (IntKind.i64.wrap (x1 + 1))) (by kernel_rfl) (fun _ => by kernel_rfl) ?_
         refine T.nil ?_
         cases hX1
         exact fun a w' hf hh => And.intro ((((((((((Fr.nil hf).pick hf 43 rfl).pick hf 42 rfl).pick hf 41 rfl).pick hf 8 rfl).pick hf 7 rfl).pick hf 5 rfl).pick hf 4 rfl).pick hf 3 rfl).pick hf 1 rfl) (hh.sub (.cons _ (.cons_cons _ (.cons_cons _ List.Sublist.slnil))))
        ·
         rw [hc5, cond_false] at hX1
         refine T.skip_code ?_
         cases hX1
         exact fun a w' hf hh => And.intro ((((((((((Fr.nil hf).pick hf 43 rfl).pick hf 42 rfl).pick hf 41 rfl).pick hf 8 rfl).pick hf 7 rfl).pick hf 5 rfl).pick hf 4 rfl).pick hf 3 rfl).pick hf 1 rfl) (hh.sub (.cons _ (.cons_cons _ (.cons_cons _ List.Sublist.slnil))))
       ·
        rintro a w' ⟨hf, hh⟩
        refine (?_ : T 90 w V5 [box b2 24 [.int .i64 r3.1.root, .slice A3 r3.1.nodes.length c3], box b1 24 [.int .i64 p0.root, .slice A1 p0.nodes.length c1]] [(1, .pointer (some ⟨b1, 0, none⟩)), (3, .slice A2 r2.1.length c2), (4, .int .i64 r5.2), (5, .pointer (some ⟨b2, 0, none⟩)), (7, .slice A4 r5.1.length c4), (8, .int .i64 z2), (41, .slice A1 p0.nodes.length c1), (42, .int .i64 (p0.nodes.length : Int)), (43, .int .i64 x2)] _) a w' hf hh
        clear hf hh
        refine T.region ?_
        refine T.pure (.int .i64 (IntKind.i64.wrap (x2 + 1))) (by kernel_rfl) (fun _ => by kernel_rfl) ?_
        refine T.pure (.int .i64 (IntKind.i64.wrap (x2 + 1))) (by kernel_rfl) (fun _ => by kernel_rfl) ?_
        refine T.nil ?_
        cases hY1
        exact fun a w' hf hh => Exists.intro (z2, IntKind.i64.wrap (x2 + 1)) (And.intro rfl (Exists.intro z2 (Exists.intro (IntKind.i64.wrap (x2 + 1)) (And.intro rfl (And.intro ((((((((((Fr.nil hf).pick hf 43 rfl).pick hf 42 rfl).pick hf 41 rfl).pick hf 8 rfl).pick hf 7 rfl).pick hf 5 rfl).pick hf 4 rfl).pick hf 3 rfl).pick hf 1 rfl) (hh.sub (.cons_cons _ (.cons_cons _ List.Sublist.slnil))))))))
      ·
       rw [hc3, cond_false] at hY1
       refine T.exit ?_
       cases hY1
       cases (hr2 _ rfl)
       exact fun a w' hf hh => And.intro (((((((Fr.nil hf).pick hf 8 rfl).pick hf 7 rfl).pick hf 5 rfl).pick hf 4 rfl).pick hf 3 rfl).pick hf 1 rfl) (hh.sub (.cons_cons _ (.cons_cons _ List.Sublist.slnil)))
    ·
     rintro a w' ⟨hf, hh⟩
     refine (?_ : T 90 w V5 [box b2 24 [.int .i64 r3.1.root, .slice A3 r3.1.nodes.length c3], box b1 24 [.int .i64 p0.root, .slice A1 p0.nodes.length c1]] [(1, .pointer (some ⟨b1, 0, none⟩)), (3, .slice A2 r2.1.length c2), (4, .int .i64 r5.2), (5, .pointer (some ⟨b2, 0, none⟩)), (7, .slice A4 r5.1.length c4), (8, .int .i64 z1)] _) a w' hf hh
     clear hf hh
     refine T.seq ?_
     refine T.region ?_
     refine T.look (.agg #[.int .i64 r3.1.root, .slice A3 r3.1.nodes.length c3]) (by kernel_rfl) (fun w' hh => exec_loadN (cs := [.int .i64 r3.1.root, .slice A3 r3.1.nodes.length c3]) rfl rfl (by kernel_rfl) (by kernel_rfl) (fun j u hj => (hh.box_at (i := 0) (cs := [.int .i64 r3.1.root, .slice A3 r3.1.nodes.length c3]) (by rfl) 0 j).trans (seg_at (n := 2) (by rfl) hj))) ?_
     obtain ⟨r6, hb7, hF⟩ := Option.bind_eq_some_iff.1 hF
     refine T.step (W1.call (vT2 (vSc eInt) (vSc eInt)) r6 11 #[.agg #[.int .i64 r3.1.root, .slice A3 r3.1.nodes.length c3]] (by kernel_rfl) (fun _ => by kernel_rfl) (fun w' hh => tree_Depth_l F r3.1 r6 hb7 w' A3 c3 (SlOk.mono (SlOk.mono hs3 (View.le_trans (made_le _ _) hV5)) hh.view)) ?_)
     intro u V6 hV6 hu
     obtain rfl := (Sure.t2 sureInt sureInt) _ _ _ hu
     refine T.pure (.tuple #[.int .i64 r6.1, .int .i64 r6.2]) (by kernel_rfl) (fun _ => by kernel_rfl) ?_
     refine T.pure (.int .i64 r6.1) (by kernel_rfl) (fun _ => by kernel_rfl) ?_
     refine T.pure (.int .i64 r6.2) (by kernel_rfl) (fun _ => by kernel_rfl) ?_
     refine T.pure (.int .i64 r6.1) (by kernel_rfl) (fun _ => by kernel_rfl) ?_
     refine T.pure (.int .i64 r6.2) (by kernel_rfl) (fun _ => by kernel_rfl) ?_
     refine T.nil ?_
     refine T.seq ?_
     refine T.region ?_
     refine T.look (.agg #[.int .i64 p0.root, .slice A1 p0.nodes.length c1]) (by kernel_rfl) (fun w' hh => exec_loadN (cs := [.int .i64 p0.root, .slice A1 p0.nodes.length c1]) rfl rfl (by kernel_rfl) (by kernel_rfl) (fun j u hj => (hh.box_at (i := 1) (cs := [.int .i64 p0.root, .slice A1 p0.nodes.length c1]) (by rfl) 0 j).trans (seg_at (n := 2) (by rfl) hj))) ?_
     obtain ⟨r7, hb8, hF⟩ := Option.bind_eq_some_iff.1 hF
     refine T.step (W1.call (vT2 (vSc eInt) (vSc eInt)) r7 11 #[.agg #[.int .i64 p0.root, .slice A1 p0.nodes.length c1]] (by kernel_rfl) (fun _ => by kernel_rfl) (fun w' hh => tree_Depth_l F p0 r7 hb8 w' A1 c1 (SlOk.mono (SlOk.mono hs1 (View.le_trans (View.le_trans (View.le_trans (View.le_trans hV1 hV2) hV3) hV5) hV6)) hh.view)) ?_)
     intro u V7 hV7 hu
     obtain rfl := (Sure.t2 sureInt sureInt) _ _ _ hu
     refine T.pure (.tuple #[.int .i64 r7.1, .int .i64 r7.2]) (by kernel_rfl) (fun _ => by kernel_rfl) ?_
     refine T.pure (.int .i64 r7.1) (by kernel_rfl) (fun _ => by kernel_rfl) ?_
     refine T.pure (.int .i64 r7.2) (by kernel_rfl) (fun _ => by kernel_rfl) ?_
     refine T.pure (.int .i64 r7.1) (by kernel_rfl) (fun _ => by kernel_rfl) ?_
     refine T.pure (.int .i64 r7.2) (by kernel_rfl) (fun _ => by kernel_rfl) ?_
     refine T.nil ?_
     obtain ⟨z3, hX2, hF⟩ := Option.bind_eq_some_iff.1 hF
     refine T.cut (fun a w' => ∃ (V8 : View), View.le V7 V8 ∧ Fr 90 [(2, .bool z3)] a ∧ Hp w V8 [] w') ?_ ?_
     ·
      refine T.region ?_
      refine T.pure (.int .i64 r5.2) (by kernel_rfl) (fun _ => by kernel_rfl) ?_
      refine T.pure (.bool (r5.2 == 0)) (by kernel_rfl) (fun _ => by kernel_rfl) ?_
      refine T.pure (.bool (r5.2 == 0)) (by kernel_rfl) (fun _ => by kernel_rfl) ?_
      cases hg2 : (r5.2 == 0)
      ·
       skip
       rw [hg2, cond_false] at hX2
       refine T.pass (by kernel_rfl) (by kernel_rfl) ?_
       refine T.pass (by kernel_rfl) (by kernel_rfl) ?_
       refine T.pure (.bool false) (by kernel_rfl) (fun _ => by kernel_rfl) ?_
       refine T.pure (.bool false) (by kernel_rfl) (fun _ => by kernel_rfl) ?_
       refine T.pass (by kernel_rfl) (by kernel_rfl) ?_
       refine T.pass (by kernel_rfl) (by kernel_rfl) ?_
       refine T.pure (.bool false) (by kernel_rfl) (fun _ => by kernel_rfl) ?_
       refine T.pure (.bool false) (by kernel_rfl) (fun _ => by kernel_rfl) ?_
       refine T.pass (by kernel_rfl) (by kernel_rfl) ?_
       refine T.pass (by kernel_rfl) (by kernel_rfl) ?_
       refine T.pass (by kernel_rfl) (by kernel_rfl) ?_
       refine T.pure (.bool false) (by kernel_rfl) (fun _ => by kernel_rfl) ?_
       refine T.pure (.bool false) (by kernel_rfl) (fun _ => by kernel_rfl) ?_
       refine T.pass (by kernel_rfl) (by kernel_rfl) ?_
       refine T.pass (by kernel_rfl) (by kernel_rfl) ?_
       refine T.pass (by kernel_rfl) (by kernel_rfl) ?_
       refine T.pass (by kernel_rfl) (by kernel_rfl) ?_
       refine T.pass (by kernel_rfl) (by kernel_rfl) ?_
       refine T.pure (.bool false) (by kernel_rfl) (fun _ => by kernel_rfl) ?_
       refine T.pure (.bool false) (by kernel_rfl) (fun _ => by kernel_rfl) ?_
       refine T.pass (by kernel_rfl) (by kernel_rfl) ?_
       refine T.pass (by kernel_rfl) (by kernel_rfl) ?_
       refine T.pass (by kernel_rfl) (by kernel_rfl) ?_
       refine T.pure (.bool false) (by kernel_rfl) (fun _ => by kernel_rfl) ?_
       refine T.pure (.bool false) (by kernel_rfl) (fun _ => by kernel_rfl) ?_
       refine T.nil ?_
       cases hX2
       exact fun a w' hf hh => Exists.intro V7 (And.intro (View.le_refl _) (And.intro ((Fr.nil hf).pick hf 2 rfl) (hh.sub (.cons _ (.cons _ List.Sublist.slnil)))))
      ·
       skip
       rw [hg2, cond_true] at hX2
       refine T.pure (.int .i64 r6.2) (by kernel_rfl) (fun _ => by kernel_rfl) ?_
       refine T.pure (.bool (r6.2 == 0)) (by kernel_rfl) (fun _ => by kernel_rfl) ?_
       refine T.pure (.bool (r6.2 == 0)) (by kernel_rfl) (fun _ => by kernel_rfl) ?_
       refine T.pure (.bool (r6.2 == 0)) (by kernel_rfl) (fun _ => by kernel_rfl) ?_
       cases hg3 : (r6.2 == 0)
       ·
        skip
        rw [hg3, cond_false] at hX2
        refine T.pass (by kernel_rfl) (by kernel_rfl) ?_
        refine T.pass (by kernel_rfl) (by kernel_rfl) ?_
        refine T.pure (.bool false) (by kernel_rfl) (fun _ => by kernel_rfl) ?_
        refine T.pure (.bool false) (by kernel_rfl) (fun _ => by kernel_rfl) ?_
        refine T.pass (by kernel_rfl) (by kernel_rfl) ?_
        refine T.pass (by kernel_rfl) (by kernel_rfl) ?_
        refine T.pass (by kernel_rfl) (by kernel_rfl) ?_
        refine T.pure (.bool false) (by kernel_rfl) (fun _ => by kernel_rfl) ?_
        refine T.pure (.bool false) (by kernel_rfl) (fun _ => by kernel_rfl) ?_
        refine T.pass (by kernel_rfl) (by kernel_rfl) ?_
        refine T.pass (by kernel_rfl) (by kernel_rfl) ?_
        refine T.pass (by kernel_rfl) (by kernel_rfl) ?_
        refine T.pass (by kernel_rfl) (by kernel_rfl) ?_
        refine T.pass (by kernel_rfl) (by kernel_rfl) ?_
        refine T.pure (.bool false) (by kernel_rfl) (fun _ => by kernel_rfl) ?_
        refine T.pure (.bool false) (by kernel_rfl) (fun _ => by kernel_rfl) ?_
        refine T.pass (by kernel_rfl) (by kernel_rfl) ?_
        refine T.pass (by kernel_rfl) (by kernel_rfl) ?_
        refine T.pass (by kernel_rfl) (by kernel_rfl) ?_
        refine T.pure (.bool false) (by kernel_rfl) (fun _ => by kernel_rfl) ?_
        refine T.pure (.bool false) (by kernel_rfl) (fun _ => by kernel_rfl) ?_
        refine T.nil ?_
        cases hX2
        exact fun a w' hf hh => Exists.intro V7 (And.intro (View.le_refl _) (And.intro ((Fr.nil hf).pick hf 2 rfl) (hh.sub (.cons _ (.cons _ List.Sublist.slnil)))))
       ·
        skip
        rw [hg3, cond_true] at hX2
        refine T.pure (.int .i64 r7.2) (by kernel_rfl) (fun _ => by kernel_rfl) ?_
        refine T.pure (.bool (r7.2 == 0)) (by kernel_rfl) (fun _ => by kernel_rfl) ?_
        refine T.pure (.bool (r7.2 == 0)) (by kernel_rfl) (fun _ => by kernel_rfl) ?_
        refine T.pure (.bool (r7.2 == 0)) (by kernel_rfl) (fun _ => by kernel_rfl) ?_
        cases hg4 : (r7.2 == 0)
        ·
         skip
         rw [hg4, cond_false] at hX2
         refine T.pass (by kernel_rfl) (by kernel_rfl) ?_
         refine T.pass (by kernel_rfl) (by kernel_rfl) ?_
         refine T.pass (by kernel_rfl) (by kernel_rfl) ?_
         refine T.pure (.bool false) (by kernel_rfl) (fun _ => by kernel_rfl) ?_
         refine T.pure (.bool false) (by kernel_rfl) (fun _ => by kernel_rfl) ?_
         refine T.pass (by kernel_rfl) (by kernel_rfl) ?_
         refine T.pass (by kernel_rfl) (by kernel_rfl) ?_
         refine T.pass (by kernel_rfl) (by kernel_rfl) ?_
         refine T.pass (by kernel_rfl) (by kernel_rfl) ?_
         refine T.pass (by kernel_rfl) (by kernel_rfl) ?_
         refine T.pure (.bool false) (by kernel_rfl) (fun _ => by kernel_rfl) ?_
         refine T.pure (.bool false) (by kernel_rfl) (fun _ => by kernel_rfl) ?_
         refine T.pass (by kernel_rfl) (by kernel_rfl) ?_
         refine T.pass (by kernel_rfl) (by kernel_rfl) ?_
         refine T.pass (by kernel_rfl) (by kernel_rfl) ?_
         refine T.pure (.bool false) (by kernel_rfl) (fun _ => by kernel_rfl) ?_
         refine T.pure (.bool false) (by kernel_rfl) (fun _ => by kernel_rfl) ?_
         refine T.nil ?_
         cases hX2
         exact fun a w' hf hh => Exists.intro V7 (And.intro (View.le_refl _) (And.intro ((Fr.nil hf).pick hf 2 rfl) (hh.sub (.cons _ (.cons _ List.Sublist.slnil)))))
        ·
         skip
         rw [hg4, cond_true] at hX2
         refine T.pure (.slice A4 r5.1.length c4) (by kernel_rfl) (fun _ => by kernel_rfl) ?_
         refine T.pure (.slice A2 r2.1.length c2) (by kernel_rfl) (fun _ => by kernel_rfl) ?_
         obtain ⟨r8, hb9, hX2⟩ := Option.bind_eq_some_iff.1 hX2
         refine T.step (W1.call (vSc eBool) r8 25 #[.slice A4 r5.1.length c4, .slice A2 r2.1.length c2] (by kernel_rfl) (fun _ => by kernel_rfl) (fun w' hh => slices_Equal_Elem_l F r5.1 r2.1 r8 hb9 w' A4 c4 (SlOk.mono (SlOk.mono hs4 (View.le_trans (made_le _ _) (View.le_trans hV6 hV7))) hh.view) A2 c2 (SlOk.mono (SlOk.mono hs2 (View.le_trans (made_le _ _) (View.le_trans (View.le_trans (View.le_trans hV3 hV5) hV6) hV7))) hh.view)) ?_)
         intro u V9 hV9 hu
         obtain rfl := sureBool _ _ _ hu
         refine T.pure (.bool r8) (by kernel_rfl) (fun _ => by kernel_rfl) ?_
         refine T.pure (.bool r8) (by kernel_rfl) (fun _ => by kernel_rfl) ?_
         cases hg5 : r8
         ·
          skip
          rw [hg5, cond_false] at hX2
          refine T.pass (by kernel_rfl) (by kernel_rfl) ?_
          refine T.pass (by kernel_rfl) (by kernel_rfl) ?_
          refine T.pass (by kernel_rfl) (by kernel_rfl) ?_
          refine T.pass (by kernel_rfl) (by kernel_rfl) ?_
          refine T.pass (by kernel_rfl) (by kernel_rfl) ?_
          refine T.pure (.bool false) (by kernel_rfl) (fun _ => by kernel_rfl) ?_
          refine T.pure (.bool false) (by kernel_rfl) (fun _ => by kernel_rfl) ?_
          refine T.pass (by kernel_rfl) (by kernel_rfl) ?_
          refine T.pass (by kernel_rfl) (by kernel_rfl) ?_
          refine T.pass (by kernel_rfl) (by kernel_rfl) ?_
          refine T.pure (.bool false) (by kernel_rfl) (fun _ => by kernel_rfl) ?_
          refine T.pure (.bool false) (by kernel_rfl) (fun _ => by kernel_rfl) ?_
          refine T.nil ?_
          cases hX2
          exact fun a w' hf hh => Exists.intro V9 (And.intro hV9 (And.intro ((Fr.nil hf).pick hf 2 rfl) (hh.sub (.cons _ (.cons _ List.Sublist.slnil)))))
         ·
          skip
          rw [hg5, cond_true] at hX2
          refine T.pure (.pointer (some ⟨b2, 1, none⟩)) (by kernel_rfl) (fun _ => by kernel_rfl) ?_
          refine T.look (.slice A3 r3.1.nodes.length c3) (by kernel_rfl) (fun w' hh => exec_load1 rfl rfl (by kernel_rfl) (hh.cellBox (i := 0) (by rfl) 1)) ?_
          refine T.pure (.int .i64 (r3.1.nodes.length : Int)) (by kernel_rfl) (fun _ => by kernel_rfl) ?_
          refine T.pure (.int .i64 z1) (by kernel_rfl) (fun _ => by kernel_rfl) ?_
          refine T.pure (.bool (decide ((r3.1.nodes.length : Int) ≤ z1))) (by kernel_rfl) (fun _ => by kernel_rfl) ?_
          refine T.pure (.bool (decide ((r3.1.nodes.length : Int) ≤ z1))) (by kernel_rfl) (fun _ => by kernel_rfl) ?_
          refine T.pure (.bool (decide ((r3.1.nodes.length : Int) ≤ z1))) (by kernel_rfl) (fun _ => by kernel_rfl) ?_
          cases hg6 : decide ((r3.1.nodes.length : Int) ≤ z1)
          ·
           skip
           rw [hg6, cond_false] at hX2
           refine T.pass (by kernel_rfl) (by kernel_rfl) ?_
           refine T.pass (by kernel_rfl) (by kernel_rfl) ?_
           refine T.pass (by kernel_rfl) (by kernel_rfl) ?_
           refine T.pure (.bool false) (by kernel_rfl) (fun _ => by kernel_rfl) ?_
           refine T.pure (.bool false) (by kernel_rfl) (fun _ => by kernel_rfl) ?_
           refine T.nil ?_
           cases hX2
           exact fun a w' hf hh => Exists.intro V9 (And.intro hV9 (And.intro ((Fr.nil hf).pick hf 2 rfl) (hh.sub (.cons _ (.cons _ List.Sublist.slnil)))))
          ·
           skip
           rw [hg6, cond_true] at hX2
           refine T.pure (.int .i64 r6.1) (by kernel_rfl) (fun _ => by kernel_rfl) ?_
           refine T.pure (.int .i64 r7.1) (by kernel_rfl) (fun _ => by kernel_rfl) ?_
           refine T.pure (.bool (decide (r6.1 ≤ r7.1))) (by kernel_rfl) (fun _ => by kernel_rfl) ?_
           refine T.pure (.bool (decide (r6.1 ≤ r7.1))) (by kernel_rfl) (fun _ => by kernel_rfl) ?_
           refine T.pure (.bool (decide (r6.1 ≤ r7.1))) (by kernel_rfl) (fun _ => by kernel_rfl) ?_
           refine T.nil ?_
           cases hX2
           exact fun a w' hf hh => Exists.intro V9 (And.intro hV9 (And.intro ((Fr.nil hf).pick hf 2 rfl) (hh.sub (.cons _ (.cons _ List.Sublist.slnil)))))
     ·
      rintro a w' ⟨V8, hV8, hf, hh⟩
      refine (?_ : T 90 w V8 [] [(2, .bool z3)] _) a w' hf hh
      clear hf hh
      cases hF
      refine T.ret rfl ?_
      exact T.ret1 rfl (ResIs.tmp rfl) fun w' hh => ⟨_, rfl, hh.below, (show _ from rfl)⟩

end Go.Proofs.Ytoaopihihccfkaa
