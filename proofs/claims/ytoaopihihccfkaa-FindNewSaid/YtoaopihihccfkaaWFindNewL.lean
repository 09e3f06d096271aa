/- The Go functions of group WFindNew compute the pure functions of that group: written by walkgen.py. Condition of each: the pure function yields a result. -/
import Derived.Test.YtoaopihihccfkaaFindNL
import Derived.Test.YtoaopihihccfkaaBuildL
import Derived.Test.YtoaopihihccfkaaEqsL
import Derived.Test.YtoaopihihccfkaaWFindNewF
import Derived.Test.YtoaopihihccfkaaEqL
namespace Go.Proofs.Ytoaopihihccfkaa
set_option linter.unusedVariables false

set_option maxRecDepth 100000 in
set_option maxHeartbeats 4000000 in
theorem annalkeep_FindNew_l (F : Nat) (p0 : DTree) (p1 : Int) (p2 : Int) (r : Bool) (hF : annalkeep_FindNew F p0 p1 p2 = some r) (w : World) (A1 : Option Addr) (c1 : Nat) (hs1 : SlOk (vw w) eNode A1 c1 p0.nodes) :
    Calls Try.prog 7 #[.agg #[.int .i64 p0.root, .slice A1 p0.nodes.length c1], .int .i64 p1, .int .i64 p2] w (Post (vSc eBool) r w) := by
 unfold annalkeep_FindNew at hF
 refine T.start (l := [.agg #[.int .i64 p0.root, .slice A1 p0.nodes.length c1], .int .i64 p1, .int .i64 p2]) Try.func7 rfl rfl rfl ?_
 refine T.seq ?_
 refine T.region ?_
 refine T.step (W1.new 24 [.int .i64 p0.root, .slice A1 p0.nodes.length c1] (fun b => .pointer (some ⟨b, 0, none⟩)) (by kernel_rfl) (fun _ => by kernel_rfl) (fun b1 => ?_))
 refine T.pure (.bool false) (by kernel_rfl) (fun _ => by kernel_rfl) ?_
 refine T.nil ?_
 refine T.seq ?_
 refine T.seq ?_
 refine T.region ?_
 obtain ⟨r1, hb1, hF⟩ := Option.bind_eq_some_iff.1 hF
 refine T.step (W1.call (vAg eElem) r1 17 #[.int .i64 1, .string (ByteArray.mk #[97])] (by kernel_rfl) (fun _ => by kernel_rfl) (fun w' hh => annalkeep_at1_l 1 (ByteArray.mk #[97]) r1 hb1 w' ) ?_)
 intro u V1 hV1 hu
 obtain rfl := sureElem _ _ _ hu
 refine T.step (W1.new 39 [.int .i64 r1.key.pfs, .int .i64 r1.key.obj, .int .i64 r1.key.off, .int .i64 r1.made, .int .i64 r1.gone, .string r1.val] (fun b => .slice (some ⟨b, 0, none⟩) 1 1) (by kernel_rfl) (fun _ => by kernel_rfl) (fun b2 => ?_))
 obtain ⟨r2, hb2, hF⟩ := Option.bind_eq_some_iff.1 hF
 refine T.step (W1.call (vAg eTree) r2 16 #[.slice (some ⟨b2, 0, none⟩) 1 1] (by kernel_rfl) (fun _ => by kernel_rfl) (fun w' hh => annalkeep_of_l F [r1] r2 hb2 w' (some ⟨b2, 0, none⟩) 1 (slok_lit (E := eElem) (f := DElem.cells) [r1] (fun _ _ => rfl) (Nat.le_of_ble_eq_true (by rfl)) (fun j => hh.cellBox (i := 0) (by rfl) j))) ?_)
 intro u V2 hV2 hu
 obtain ⟨cs1, rfl, hr1⟩ := vagg_elim hu
 obtain ⟨A2, c2, rfl, hs2⟩ := hr1
 obtain ⟨r3, hb3, hF⟩ := Option.bind_eq_some_iff.1 hF
 refine T.step (W1.call (vT3 (vSc (eList eElem)) (vSc eInt) (vSc eInt)) r3 26 #[.agg #[.int .i64 r2.root, .slice A2 r2.nodes.length c2], .int .i64 0] (by kernel_rfl) (fun _ => by kernel_rfl) (fun w' hh => find_Since_l F r2 0 r3 hb3 w' A2 c2 (SlOk.mono (SlOk.mono hs2 (View.le_trans (made_le _ _) (View.le_refl _))) hh.view)) ?_)
 intro u V3 hV3 hu
 obtain ⟨u1, u2, u3, rfl, hu1, hu2, hu3⟩ := vT3_elim hu
 obtain ⟨A3, c3, rfl, hs3⟩ := vlist_elim hu1
 obtain rfl := sureInt _ _ _ hu2
 obtain rfl := sureInt _ _ _ hu3
 refine T.pure (.tuple #[.slice A3 r3.1.length c3, .int .i64 r3.2.1, .int .i64 r3.2.2]) (by kernel_rfl) (fun _ => by kernel_rfl) ?_
 refine T.pure (.slice A3 r3.1.length c3) (by kernel_rfl) (fun _ => by kernel_rfl) ?_
 refine T.pure (.int .i64 r3.2.1) (by kernel_rfl) (fun _ => by kernel_rfl) ?_
 refine T.pure (.int .i64 r3.2.2) (by kernel_rfl) (fun _ => by kernel_rfl) ?_
 refine T.pure (.slice A3 r3.1.length c3) (by kernel_rfl) (fun _ => by kernel_rfl) ?_
 refine T.pure (.int .i64 r3.2.1) (by kernel_rfl) (fun _ => by kernel_rfl) ?_
 refine T.pure (.int .i64 r3.2.2) (by kernel_rfl) (fun _ => by kernel_rfl) ?_
 refine T.nil ?_
 refine T.cut (fun a w' => Fr 160 [(1, .int .i64 p1), (2, .int .i64 p2), (3, .pointer (some ⟨b1, 0, none⟩)), (46, .bool ((r3.2.2 != 0) || (((r3.1.length : Int) != 1) || (r3.2.1 != 1))))] a ∧ Hp w V3 [box b1 24 [.int .i64 p0.root, .slice A1 p0.nodes.length c1]] w') ?_ ?_
 ·
  refine T.region ?_
  refine T.pure (.int .i64 r3.2.2) (by kernel_rfl) (fun _ => by kernel_rfl) ?_
  refine T.pure (.bool (r3.2.2 != 0)) (by kernel_rfl) (fun _ => by kernel_rfl) ?_
  refine T.pure (.bool (r3.2.2 != 0)) (by kernel_rfl) (fun _ => by kernel_rfl) ?_
  cases hg1 : (r3.2.2 != 0)
  ·
   skip
   refine T.pure (.slice A3 r3.1.length c3) (by kernel_rfl) (fun _ => by kernel_rfl) ?_
   refine T.pure (.int .i64 (r3.1.length : Int)) (by kernel_rfl) (fun _ => by kernel_rfl) ?_
   refine T.pure (.bool ((r3.1.length : Int) != 1)) (by kernel_rfl) (fun _ => by kernel_rfl) ?_
   refine T.pure (.bool ((r3.1.length : Int) != 1)) (by kernel_rfl) (fun _ => by kernel_rfl) ?_
   refine T.pure (.bool ((r3.1.length : Int) != 1)) (by kernel_rfl) (fun _ => by kernel_rfl) ?_
   cases hg2 : ((r3.1.length : Int) != 1)
   ·
    skip
    refine T.pure (.int .i64 r3.2.1) (by kernel_rfl) (fun _ => by kernel_rfl) ?_
    refine T.pure (.bool (r3.2.1 != 1)) (by kernel_rfl) (fun _ => by kernel_rfl) ?_
    refine T.pure (.bool (r3.2.1 != 1)) (by kernel_rfl) (fun _ => by kernel_rfl) ?_
    refine T.nil ?_
    exact fun a w' hf hh => And.intro (((((Fr.nil hf).pick hf 46 rfl).pick hf 3 rfl).pick hf 2 rfl).pick hf 1 rfl) (hh.sub (.cons _ (.cons_cons _ List.Sublist.slnil)))
   ·
    skip
    refine T.pass (by kernel_rfl) (by kernel_rfl) ?_
    refine T.pass (by kernel_rfl) (by kernel_rfl) ?_
    refine T.pure (.bool true) (by kernel_rfl) (fun _ => by kernel_rfl) ?_
    refine T.nil ?_
    exact fun a w' hf hh => And.intro (((((Fr.nil hf).pick hf 46 rfl).pick hf 3 rfl).pick hf 2 rfl).pick hf 1 rfl) (hh.sub (.cons _ (.cons_cons _ List.Sublist.slnil)))
  ·
   skip
   refine T.pass (by kernel_rfl) (by kernel_rfl) ?_
   refine T.pass (by kernel_rfl) (by kernel_rfl) ?_
   refine T.pass (by kernel_rfl) (by kernel_rfl) ?_
   refine T.pure (.bool true) (by kernel_rfl) (fun _ => by kernel_rfl) ?_
   refine T.pure (.bool true) (by kernel_rfl) (fun _ => by kernel_rfl) ?_
   refine T.pass (by kernel_rfl) (by kernel_rfl) ?_
   refine T.pass (by kernel_rfl) (by kernel_rfl) ?_
   refine T.pure (.bool true) (by kernel_rfl) (fun _ => by kernel_rfl) ?_
   refine T.nil ?_
   exact fun a w' hf hh => And.intro (((((Fr.nil hf).pick hf 46 rfl).pick hf 3 rfl).pick hf 2 rfl).pick hf 1 rfl) (hh.sub (.cons _ (.cons_cons _ List.Sublist.slnil)))
 ·
  rintro a w' ⟨hf, hh⟩
  refine (?_ : T 160 w V3 [box b1 24 [.int .i64 p0.root, .slice A1 p0.nodes.length c1]] [(1, .int .i64 p1), (2, .int .i64 p2), (3, .pointer (some ⟨b1, 0, none⟩)), (46, .bool ((r3.2.2 != 0) || (((r3.1.length : Int) != 1) || (r3.2.1 != 1))))] _) a w' hf hh
  clear hf hh
  refine T.cond ((r3.2.2 != 0) || (((r3.1.length : Int) != 1) || (r3.2.1 != 1))) (by kernel_rfl) (by kernel_rfl) (fun hc1 => ?_) (fun hc1 => ?_)
  ·
   rw [hc1, cond_true] at hF
   refine T.seq ?_
   refine T.region ?_
   refine T.pure (.bool false) (by kernel_rfl) (fun _ => by kernel_rfl) ?_
   refine T.nil ?_
   cases hF
   refine T.ret rfl ?_
   exact T.ret1 rfl (ResIs.tmp rfl) fun w' hh => ⟨_, rfl, hh.below, (show _ from rfl)⟩
  ·
   rw [hc1, cond_false] at hF
   refine T.skip_code ?_
   refine T.seq ?_
   refine T.region ?_
   refine T.look (.agg #[.int .i64 p0.root, .slice A1 p0.nodes.length c1]) (by kernel_rfl) (fun w' hh => exec_loadN (cs := [.int .i64 p0.root, .slice A1 p0.nodes.length c1]) rfl rfl (by kernel_rfl) (by kernel_rfl) (fun j u hj => (hh.box_at (i := 0) (cs := [.int .i64 p0.root, .slice A1 p0.nodes.length c1]) (by rfl) 0 j).trans (seg_at (n := 2) (by rfl) hj))) ?_
   obtain ⟨r4, hb4, hF⟩ := Option.bind_eq_some_iff.1 hF
   refine T.step (W1.call (vT2 (vSc (eList eElem)) (vSc eInt)) r4 13 #[.agg #[.int .i64 p0.root, .slice A1 p0.nodes.length c1]] (by kernel_rfl) (fun _ => by kernel_rfl) (fun w' hh => tree_All_l F p0 r4 hb4 w' A1 c1 (SlOk.mono (SlOk.mono hs1 (View.le_trans (View.le_trans hV1 hV2) hV3)) hh.view)) ?_)
   intro u V4 hV4 hu
   obtain ⟨u4, u5, rfl, hu4, hu5⟩ := vT2_elim hu
   obtain ⟨A4, c4, rfl, hs4⟩ := vlist_elim hu4
   obtain rfl := sureInt _ _ _ hu5
   refine T.pure (.tuple #[.slice A4 r4.1.length c4, .int .i64 r4.2]) (by kernel_rfl) (fun _ => by kernel_rfl) ?_
   refine T.pure (.slice A4 r4.1.length c4) (by kernel_rfl) (fun _ => by kernel_rfl) ?_
   refine T.pure (.int .i64 r4.2) (by kernel_rfl) (fun _ => by kernel_rfl) ?_
   refine T.pure (.slice A4 r4.1.length c4) (by kernel_rfl) (fun _ => by kernel_rfl) ?_
   refine T.pure (.int .i64 r4.2) (by kernel_rfl) (fun _ => by kernel_rfl) ?_
   refine T.nil ?_
   refine T.seq ?_
   refine T.seq ?_
   refine T.region ?_
   refine T.pure (.int .i64 r4.2) (by kernel_rfl) (fun _ => by kernel_rfl) ?_
   refine T.pure (.bool (r4.2 != 0)) (by kernel_rfl) (fun _ => by kernel_rfl) ?_
   refine T.nil ?_
   refine T.cond (r4.2 != 0) (by kernel_rfl) (by kernel_rfl) (fun hc2 => ?_) (fun hc2 => ?_)
   ·
    rw [hc2, cond_true] at hF
    refine T.seq ?_
    refine T.region ?_
    refine T.pure (.bool true) (by kernel_rfl) (fun _ => by kernel_rfl) ?_
    refine T.nil ?_
    cases hF
    refine T.ret rfl ?_
    exact T.ret1 rfl (ResIs.tmp rfl) fun w' hh => ⟨_, rfl, hh.below, (show _ from rfl)⟩
   ·
    rw [hc2, cond_false] at hF
    refine T.skip_code ?_
    refine T.seq ?_
    refine T.region ?_
    refine T.pure (.int .i64 0) (by kernel_rfl) (fun _ => by kernel_rfl) ?_
    refine T.nil ?_
    refine T.seq ?_
    refine T.seq ?_
    refine T.region ?_
    refine T.pure (.pointer (some ⟨b1, 1, none⟩)) (by kernel_rfl) (fun _ => by kernel_rfl) ?_
    refine T.look (.slice A1 p0.nodes.length c1) (by kernel_rfl) (fun w' hh => exec_load1 rfl rfl (by kernel_rfl) (hh.cellBox (i := 0) (by rfl) 1)) ?_
    refine T.pure (.int .i64 (p0.nodes.length : Int)) (by kernel_rfl) (fun _ => by kernel_rfl) ?_
    refine T.pure (.int .i64 0) (by kernel_rfl) (fun _ => by kernel_rfl) ?_
    refine T.nil ?_
    obtain ⟨z1, hz1, hF⟩ := Option.bind_eq_some_iff.1 hF
    refine T.mid (fun a w' => Fr 160 [(1, .int .i64 p1), (2, .int .i64 p2), (3, .pointer (some ⟨b1, 0, none⟩)), (10, .slice A4 r4.1.length c4), (12, .int .i64 z1)] a ∧ Hp w V4 [box b1 24 [.int .i64 p0.root, .slice A1 p0.nodes.length c1]] w') ?_ ?_
    ·
     refine T.block ?_
     refine T.iter (fun s1 a w' => ∃ (x1 : Int) (x2 : Int), s1 = (x1, x2) ∧ Fr 160 [(1, .int .i64 p1), (2, .int .i64 p2), (3, .pointer (some ⟨b1, 0, none⟩)), (10, .slice A4 r4.1.length c4), (12, .int .i64 x1), (55, .slice A1 p0.nodes.length c1), (56, .int .i64 (p0.nodes.length : Int)), (57, .int .i64 x2)] a ∧ Hp w V4 [box b1 24 [.int .i64 p0.root, .slice A1 p0.nodes.length c1]] w') hz1 ?_ ?_
     ·
      exact fun a w' hf hh => Exists.intro 0 (Exists.intro 0 (And.intro rfl (And.intro (((((((((Fr.nil hf).pick hf 57 rfl).pick hf 56 rfl).pick hf 55 rfl).pick hf 12 rfl).pick hf 10 rfl).pick hf 3 rfl).pick hf 2 rfl).pick hf 1 rfl) (hh.sub (.cons_cons _ List.Sublist.slnil)))))
     ·
      rintro s1 y1 hY1 hr2 a w' ⟨x1, x2, rfl, hf, hh⟩
      refine (?_ : T 160 w V4 [box b1 24 [.int .i64 p0.root, .slice A1 p0.nodes.length c1]] [(1, .int .i64 p1), (2, .int .i64 p2), (3, .pointer (some ⟨b1, 0, none⟩)), (10, .slice A4 r4.1.length c4), (12, .int .i64 x1), (55, .slice A1 p0.nodes.length c1), (56, .int .i64 (p0.nodes.length : Int)), (57, .int .i64 x2)] _) a w' hf hh
      clear hf hh
      try dsimp only at hY1
      refine T.seq ?_
      refine T.region ?_
      refine T.pure (.bool (decide (x2 < (p0.nodes.length : Int)))) (by kernel_rfl) (fun _ => by kernel_rfl) ?_
      refine T.nil ?_
      refine T.seq ?_
      refine T.cond (decide (x2 < (p0.nodes.length : Int))) (by kernel_rfl) (by kernel_rfl) (fun hc3 => ?_) (fun hc3 => ?_)
      ·
       rw [hc3, cond_true] at hY1
       refine T.skip_code ?_
       obtain ⟨z2, hX1, hY1⟩ := Option.bind_eq_some_iff.1 hY1
       refine T.cut (fun a w' => Fr 160 [(1, .int .i64 p1), (2, .int .i64 p2), (3, .pointer (some ⟨b1, 0, none⟩)), (10, .slice A4 r4.1.length c4), (12, .int .i64 z2), (55, .slice A1 p0.nodes.length c1), (56, .int .i64 (p0.nodes.length : Int)), (57, .int .i64 x2)] a ∧ Hp w V4 [box b1 24 [.int .i64 p0.root, .slice A1 p0.nodes.length c1]] w') ?_ ?_
       ·
        refine T.block ?_
        refine T.seq ?_
        refine T.region ?_
        obtain ⟨e1, hb5, hX1⟩ := Option.bind_eq_some_iff.1 hX1
        obtain ⟨hi1, hi2, hi3⟩ := idx_some hb5
        obtain ⟨cs2, hr3, hc4⟩ := SlOk.elem (SlOk.mono hs1 (View.le_trans (View.le_trans (View.le_trans hV1 hV2) hV3) hV4)) hi3
        obtain ⟨A5, c5, A6, c6, A7, c7, A8, c8, rfl, hs5, hs6, hs7, hs8⟩ := hr3
        refine T.look (.pointer (some ((sadr A1).add (x2.toNat * 5)))) (by kernel_rfl) (fun w' hh => exec_indexAddr (e := 57) (s := 5) rfl rfl rfl (by kernel_rfl) (by kernel_rfl) hi1 hi2 ((SlOk.mono hs1 (View.le_trans (View.le_trans (View.le_trans hV1 hV2) hV3) hV4)).some_ hi3 (by decide))) ?_
        refine T.look (.agg #[.int .i64 e1.kind, .slice A5 e1.elems.length c5, .slice A6 e1.kids.length c6, .slice A7 e1.seps.length c7, .slice A8 e1.tids.length c8]) (by kernel_rfl) (fun w' hh => exec_loadN (cs := [.int .i64 e1.kind, .slice A5 e1.elems.length c5, .slice A6 e1.kids.length c6, .slice A7 e1.seps.length c7, .slice A8 e1.tids.length c8]) rfl rfl (by kernel_rfl) (by kernel_rfl) (fun j u hj => hh.cell_view (View.cell_mono (View.le_refl _) (hc4 j u hj).2))) ?_
        refine T.step (W1.new 57 [.int .i64 0, .slice none 0 0, .slice none 0 0, .slice none 0 0, .slice none 0 0] (fun b => .pointer (some ⟨b, 0, none⟩)) (by kernel_rfl) (fun _ => by kernel_rfl) (fun b3 => ?_))
        refine T.step (W1.store 0 [.int .i64 e1.kind, .slice A5 e1.elems.length c5, .slice A6 e1.kids.length c6, .slice A7 e1.seps.length c7, .slice A8 e1.tids.length c8] [box b3 57 [.int .i64 e1.kind, .slice A5 e1.elems.length c5, .slice A6 e1.kids.length c6, .slice A7 e1.seps.length c7, .slice A8 e1.tids.length c8], box b1 24 [.int .i64 p0.root, .slice A1 p0.nodes.length c1]] (by rfl) rfl (by kernel_rfl) (fun w' hw => exec_store (vs := [.int .i64 e1.kind, .slice A5 e1.elems.length c5, .slice A6 e1.kids.length c6, .slice A7 e1.seps.length c7, .slice A8 e1.tids.length c8]) rfl rfl rfl rfl (by kernel_rfl) (one_of rfl) (by simp) rfl hw) ?_)
        refine T.nil ?_
        refine T.seq ?_
        refine T.region ?_
        refine T.pure (.pointer (some ⟨b3, 0, none⟩)) (by kernel_rfl) (fun _ => by kernel_rfl) ?_
        refine T.look (.int .i64 e1.kind) (by kernel_rfl) (fun w' hh => exec_load1 rfl rfl (by kernel_rfl) (hh.cellBox (i := 0) (by rfl) 0)) ?_
        refine T.pure (.bool (e1.kind != 0)) (by kernel_rfl) (fun _ => by kernel_rfl) ?_
        refine T.nil ?_
        refine T.cond (e1.kind != 0) (by kernel_rfl) (by kernel_rfl) (fun hc5 => ?_) (fun hc5 => ?_)
        ·
         rw [hc5, cond_true] at hX1
         refine T.region ?_
         refine T.pure (.int .i64 x1) (by kernel_rfl) (fun _ => by kernel_rfl) ?_
         refine T.pure (.int .i64 (IntKind.i64.wrap (x1 + 1))) (by kernel_rfl) (fun _ => by kernel_rfl) ?_
         refine T.pure (.int .i64 (IntKind.i64.wrap (x1 + 1))) (by kernel_rfl) (fun _ => by kernel_rfl) ?_
         refine T.nil ?_
         cases hX1
         exact fun a w' hf hh => And.intro (((((((((Fr.nil hf).pick hf 57 rfl).pick hf 56 rfl).pick hf 55 rfl).pick hf 12 rfl).pick hf 10 rfl).pick hf 3 rfl).pick hf 2 rfl).pick hf 1 rfl) (hh.sub (.cons _ (.cons_cons _ List.Sublist.slnil)))
        ·
         rw [hc5, cond_false] at hX1
         refine T.skip_code ?_
         cases hX1
         exact fun a w' hf hh => And.intro (((((((((Fr.nil hf).pick hf 57 rfl).pick hf 56 rfl).pick hf 55 rfl).pick hf 12 rfl).pick hf 10 rfl).pick hf 3 rfl).pick hf 2 rfl).pick hf 1 rfl) (hh.sub (.cons _ (.cons_cons _ List.Sublist.slnil)))
       ·
        rintro a w' ⟨hf, hh⟩
        refine (?_ : T 160 w V4 [box b1 24 [.int .i64 p0.root, .slice A1 p0.nodes.length c1]] [(1, .int .i64 p1), (2, .int .i64 p2), (3, .pointer (some ⟨b1, 0, none⟩)), (10, .slice A4 r4.1.length c4), (12, .int .i64 z2), (55, .slice A1 p0.nodes.length c1), (56, .int .i64 (p0.nodes.length : Int)), (57, .int .i64 x2)] _) a w' hf hh
        clear hf hh
        refine T.region ?_
        refine T.pure (.int .i64 (IntKind.i64.wrap (x2 + 1))) (by kernel_rfl) (fun _ => by kernel_rfl) ?_
        refine T.pure (.int .i64 (IntKind.i64.wrap (x2 + 1))) (by kernel_rfl) (fun _ => by kernel_rfl) ?_
        refine T.nil ?_
        cases hY1
        exact fun a w' hf hh => Exists.intro (z2, IntKind.i64.wrap (x2 + 1)) (And.intro rfl (Exists.intro z2 (Exists.intro (IntKind.i64.wrap (x2 + 1)) (And.intro rfl (And.intro (((((((((Fr.nil hf).pick hf 57 rfl).pick hf 56 rfl).pick hf 55 rfl).pick hf 12 rfl).pick hf 10 rfl).pick hf 3 rfl).pick hf 2 rfl).pick hf 1 rfl) (hh.sub (.cons_cons _ List.Sublist.slnil)))))))
      ·
       rw [hc3, cond_false] at hY1
       refine T.exit ?_
       cases hY1
       cases (hr2 _ rfl)
       exact fun a w' hf hh => And.intro ((((((Fr.nil hf).pick hf 12 rfl).pick hf 10 rfl).pick hf 3 rfl).pick hf 2 rfl).pick hf 1 rfl) (hh.sub (.cons_cons _ List.Sublist.slnil))
    ·
     rintro a w' ⟨hf, hh⟩
     refine (?_ : T 160 w V4 [box b1 24 [.int .i64 p0.root, .slice A1 p0.nodes.length c1]] [(1, .int .i64 p1), (2, .int .i64 p2), (3, .pointer (some ⟨b1, 0, none⟩)), (10, .slice A4 r4.1.length c4), (12, .int .i64 z1)] _) a w' hf hh
     clear hf hh
     refine T.seq ?_
     refine T.region ?_
     refine T.look (.agg #[.int .i64 p0.root, .slice A1 p0.nodes.length c1]) (by kernel_rfl) (fun w' hh => exec_loadN (cs := [.int .i64 p0.root, .slice A1 p0.nodes.length c1]) rfl rfl (by kernel_rfl) (by kernel_rfl) (fun j u hj => (hh.box_at (i := 0) (cs := [.int .i64 p0.root, .slice A1 p0.nodes.length c1]) (by rfl) 0 j).trans (seg_at (n := 2) (by rfl) hj))) ?_
     obtain ⟨r5, hb6, hF⟩ := Option.bind_eq_some_iff.1 hF
     refine T.step (W1.call (vT3 (vSc (eList eElem)) (vSc eInt) (vSc eInt)) r5 26 #[.agg #[.int .i64 p0.root, .slice A1 p0.nodes.length c1], .int .i64 0] (by kernel_rfl) (fun _ => by kernel_rfl) (fun w' hh => find_Since_l F p0 0 r5 hb6 w' A1 c1 (SlOk.mono (SlOk.mono hs1 (View.le_trans (View.le_trans (View.le_trans hV1 hV2) hV3) hV4)) hh.view)) ?_)
     intro u V5 hV5 hu
     obtain ⟨u6, u7, u8, rfl, hu6, hu7, hu8⟩ := vT3_elim hu
     obtain ⟨A9, c9, rfl, hs9⟩ := vlist_elim hu6
     obtain rfl := sureInt _ _ _ hu7
     obtain rfl := sureInt _ _ _ hu8
     refine T.pure (.tuple #[.slice A9 r5.1.length c9, .int .i64 r5.2.1, .int .i64 r5.2.2]) (by kernel_rfl) (fun _ => by kernel_rfl) ?_
     refine T.pure (.slice A9 r5.1.length c9) (by kernel_rfl) (fun _ => by kernel_rfl) ?_
     refine T.pure (.int .i64 r5.2.1) (by kernel_rfl) (fun _ => by kernel_rfl) ?_
     refine T.pure (.int .i64 r5.2.2) (by kernel_rfl) (fun _ => by kernel_rfl) ?_
     refine T.pure (.slice A9 r5.1.length c9) (by kernel_rfl) (fun _ => by kernel_rfl) ?_
     refine T.pure (.int .i64 r5.2.1) (by kernel_rfl) (fun _ => by kernel_rfl) ?_
     refine T.pure (.int .i64 r5.2.2) (by kernel_rfl) (fun _ => by kernel_rfl) ?_
     refine T.nil ?_
     refine T.seq ?_
     refine T.region ?_
     refine T.look (.agg #[.int .i64 p0.root, .slice A1 p0.nodes.length c1]) (by kernel_rfl) (fun w' hh => exec_loadN (cs := [.int .i64 p0.root, .slice A1 p0.nodes.length c1]) rfl rfl (by kernel_rfl) (by kernel_rfl) (fun j u hj => (hh.box_at (i := 0) (cs := [.int .i64 p0.root, .slice A1 p0.nodes.length c1]) (by rfl) 0 j).trans (seg_at (n := 2) (by rfl) hj))) ?_
     obtain ⟨r6, hb7, hF⟩ := Option.bind_eq_some_iff.1 hF
     refine T.step (W1.call (vT3 (vSc (eList eElem)) (vSc eInt) (vSc eInt)) r6 26 #[.agg #[.int .i64 p0.root, .slice A1 p0.nodes.length c1], .int .i64 2147483647] (by kernel_rfl) (fun _ => by kernel_rfl) (fun w' hh => find_Since_l F p0 2147483647 r6 hb7 w' A1 c1 (SlOk.mono (SlOk.mono hs1 (View.le_trans (View.le_trans (View.le_trans (View.le_trans hV1 hV2) hV3) hV4) hV5)) hh.view)) ?_)
     intro u V6 hV6 hu
     obtain ⟨u9, u10, u11, rfl, hu9, hu10, hu11⟩ := vT3_elim hu
     obtain ⟨A10, c10, rfl, hs10⟩ := vlist_elim hu9
     obtain rfl := sureInt _ _ _ hu10
     obtain rfl := sureInt _ _ _ hu11
     refine T.pure (.tuple #[.slice A10 r6.1.length c10, .int .i64 r6.2.1, .int .i64 r6.2.2]) (by kernel_rfl) (fun _ => by kernel_rfl) ?_
     refine T.pure (.slice A10 r6.1.length c10) (by kernel_rfl) (fun _ => by kernel_rfl) ?_
     refine T.pure (.int .i64 r6.2.1) (by kernel_rfl) (fun _ => by kernel_rfl) ?_
     refine T.pure (.int .i64 r6.2.2) (by kernel_rfl) (fun _ => by kernel_rfl) ?_
     refine T.pure (.slice A10 r6.1.length c10) (by kernel_rfl) (fun _ => by kernel_rfl) ?_
     refine T.pure (.int .i64 r6.2.1) (by kernel_rfl) (fun _ => by kernel_rfl) ?_
     refine T.pure (.int .i64 r6.2.2) (by kernel_rfl) (fun _ => by kernel_rfl) ?_
     refine T.nil ?_
     refine T.seq ?_
     refine T.region ?_
     refine T.look (.agg #[.int .i64 p0.root, .slice A1 p0.nodes.length c1]) (by kernel_rfl) (fun w' hh => exec_loadN (cs := [.int .i64 p0.root, .slice A1 p0.nodes.length c1]) rfl rfl (by kernel_rfl) (by kernel_rfl) (fun j u hj => (hh.box_at (i := 0) (cs := [.int .i64 p0.root, .slice A1 p0.nodes.length c1]) (by rfl) 0 j).trans (seg_at (n := 2) (by rfl) hj))) ?_
     refine T.pure (.int .i64 p1) (by kernel_rfl) (fun _ => by kernel_rfl) ?_
     refine T.pure (.int .i64 p2) (by kernel_rfl) (fun _ => by kernel_rfl) ?_
     refine T.pure (.int .i64 (if p2 < p1 then p2 else p1)) (by kernel_rfl) (fun _ => by kernel_rfl) ?_
     obtain ⟨r7, hb8, hF⟩ := Option.bind_eq_some_iff.1 hF
     refine T.step (W1.call (vT3 (vSc (eList eElem)) (vSc eInt) (vSc eInt)) r7 26 #[.agg #[.int .i64 p0.root, .slice A1 p0.nodes.length c1], .int .i64 (if p2 < p1 then p2 else p1)] (by kernel_rfl) (fun _ => by kernel_rfl) (fun w' hh => find_Since_l F p0 (if p2 < p1 then p2 else p1) r7 hb8 w' A1 c1 (SlOk.mono (SlOk.mono hs1 (View.le_trans (View.le_trans (View.le_trans (View.le_trans (View.le_trans hV1 hV2) hV3) hV4) hV5) hV6)) hh.view)) ?_)
     intro u V7 hV7 hu
     obtain ⟨u12, u13, u14, rfl, hu12, hu13, hu14⟩ := vT3_elim hu
     obtain ⟨A11, c11, rfl, hs11⟩ := vlist_elim hu12
     obtain rfl := sureInt _ _ _ hu13
     obtain rfl := sureInt _ _ _ hu14
     refine T.pure (.tuple #[.slice A11 r7.1.length c11, .int .i64 r7.2.1, .int .i64 r7.2.2]) (by kernel_rfl) (fun _ => by kernel_rfl) ?_
     refine T.pure (.slice A11 r7.1.length c11) (by kernel_rfl) (fun _ => by kernel_rfl) ?_
     refine T.pure (.int .i64 r7.2.1) (by kernel_rfl) (fun _ => by kernel_rfl) ?_
     refine T.pure (.int .i64 r7.2.2) (by kernel_rfl) (fun _ => by kernel_rfl) ?_
     refine T.pure (.slice A11 r7.1.length c11) (by kernel_rfl) (fun _ => by kernel_rfl) ?_
     refine T.pure (.int .i64 r7.2.1) (by kernel_rfl) (fun _ => by kernel_rfl) ?_
     refine T.pure (.int .i64 r7.2.2) (by kernel_rfl) (fun _ => by kernel_rfl) ?_
     refine T.nil ?_
     refine T.seq ?_
     refine T.region ?_
     refine T.look (.agg #[.int .i64 p0.root, .slice A1 p0.nodes.length c1]) (by kernel_rfl) (fun w' hh => exec_loadN (cs := [.int .i64 p0.root, .slice A1 p0.nodes.length c1]) rfl rfl (by kernel_rfl) (by kernel_rfl) (fun j u hj => (hh.box_at (i := 0) (cs := [.int .i64 p0.root, .slice A1 p0.nodes.length c1]) (by rfl) 0 j).trans (seg_at (n := 2) (by rfl) hj))) ?_
     refine T.pure (.int .i64 p1) (by kernel_rfl) (fun _ => by kernel_rfl) ?_
     refine T.pure (.int .i64 p2) (by kernel_rfl) (fun _ => by kernel_rfl) ?_
     refine T.pure (.int .i64 (if p1 < p2 then p2 else p1)) (by kernel_rfl) (fun _ => by kernel_rfl) ?_
     obtain ⟨r8, hb9, hF⟩ := Option.bind_eq_some_iff.1 hF
     refine T.step (W1.call (vT3 (vSc (eList eElem)) (vSc eInt) (vSc eInt)) r8 26 #[.agg #[.int .i64 p0.root, .slice A1 p0.nodes.length c1], .int .i64 (if p1 < p2 then p2 else p1)] (by kernel_rfl) (fun _ => by kernel_rfl) (fun w' hh => find_Since_l F p0 (if p1 < p2 then p2 else p1) r8 hb9 w' A1 c1 (SlOk.mono (SlOk.mono hs1 (View.le_trans (View.le_trans (View.le_trans (View.le_trans (View.le_trans (View.le_trans hV1 hV2) hV3) hV4) hV5) hV6) hV7)) hh.view)) ?_)
     intro u V8 hV8 hu
     obtain ⟨u15, u16, u17, rfl, hu15, hu16, hu17⟩ := vT3_elim hu
     obtain ⟨A12, c12, rfl, hs12⟩ := vlist_elim hu15
     obtain rfl := sureInt _ _ _ hu16
     obtain rfl := sureInt _ _ _ hu17
     refine T.pure (.tuple #[.slice A12 r8.1.length c12, .int .i64 r8.2.1, .int .i64 r8.2.2]) (by kernel_rfl) (fun _ => by kernel_rfl) ?_
     refine T.pure (.slice A12 r8.1.length c12) (by kernel_rfl) (fun _ => by kernel_rfl) ?_
     refine T.pure (.int .i64 r8.2.1) (by kernel_rfl) (fun _ => by kernel_rfl) ?_
     refine T.pure (.int .i64 r8.2.2) (by kernel_rfl) (fun _ => by kernel_rfl) ?_
     refine T.pure (.slice A12 r8.1.length c12) (by kernel_rfl) (fun _ => by kernel_rfl) ?_
     refine T.pure (.int .i64 r8.2.1) (by kernel_rfl) (fun _ => by kernel_rfl) ?_
     refine T.pure (.int .i64 r8.2.2) (by kernel_rfl) (fun _ => by kernel_rfl) ?_
     refine T.nil ?_
     refine T.seq ?_
     obtain ⟨z3, hX2, hF⟩ := Option.bind_eq_some_iff.1 hF
     refine T.cut (fun a w' => ∃ (V9 : View), View.le V8 V9 ∧ Fr 160 [(1, .int .i64 p1), (2, .int .i64 p2), (20, .slice A11 r7.1.length c11), (23, .slice A12 r8.1.length c12), (140, .bool z3)] a ∧ Hp w V9 [] w') ?_ ?_
     ·
      refine T.region ?_
      refine T.pure (.int .i64 r5.2.2) (by kernel_rfl) (fun _ => by kernel_rfl) ?_
      refine T.pure (.bool (r5.2.2 != 0)) (by kernel_rfl) (fun _ => by kernel_rfl) ?_
      refine T.pure (.bool (r5.2.2 != 0)) (by kernel_rfl) (fun _ => by kernel_rfl) ?_
      cases hg3 : (r5.2.2 != 0)
      ·
       skip
       rw [hg3, cond_false] at hX2
       refine T.pure (.int .i64 r6.2.2) (by kernel_rfl) (fun _ => by kernel_rfl) ?_
       refine T.pure (.bool (r6.2.2 != 0)) (by kernel_rfl) (fun _ => by kernel_rfl) ?_
       refine T.pure (.bool (r6.2.2 != 0)) (by kernel_rfl) (fun _ => by kernel_rfl) ?_
       refine T.pure (.bool (r6.2.2 != 0)) (by kernel_rfl) (fun _ => by kernel_rfl) ?_
       cases hg4 : (r6.2.2 != 0)
       ·
        skip
        rw [hg4, cond_false] at hX2
        refine T.pure (.int .i64 r7.2.2) (by kernel_rfl) (fun _ => by kernel_rfl) ?_
        refine T.pure (.bool (r7.2.2 != 0)) (by kernel_rfl) (fun _ => by kernel_rfl) ?_
        refine T.pure (.bool (r7.2.2 != 0)) (by kernel_rfl) (fun _ => by kernel_rfl) ?_
        refine T.pure (.bool (r7.2.2 != 0)) (by kernel_rfl) (fun _ => by kernel_rfl) ?_
        cases hg5 : (r7.2.2 != 0)
        ·
         skip
         rw [hg5, cond_false] at hX2
         refine T.pure (.int .i64 r8.2.2) (by kernel_rfl) (fun _ => by kernel_rfl) ?_
         refine T.pure (.bool (r8.2.2 != 0)) (by kernel_rfl) (fun _ => by kernel_rfl) ?_
         refine T.pure (.bool (r8.2.2 != 0)) (by kernel_rfl) (fun _ => by kernel_rfl) ?_
         refine T.pure (.bool (r8.2.2 != 0)) (by kernel_rfl) (fun _ => by kernel_rfl) ?_
         cases hg6 : (r8.2.2 != 0)
         ·
          skip
          rw [hg6, cond_false] at hX2
          refine T.pure (.slice A9 r5.1.length c9) (by kernel_rfl) (fun _ => by kernel_rfl) ?_
          refine T.pure (.slice A4 r4.1.length c4) (by kernel_rfl) (fun _ => by kernel_rfl) ?_
          obtain ⟨r9, hb10, hX2⟩ := Option.bind_eq_some_iff.1 hX2
          refine T.step (W1.call (vSc eBool) r9 25 #[.slice A9 r5.1.length c9, .slice A4 r4.1.length c4] (by kernel_rfl) (fun _ => by kernel_rfl) (fun w' hh => slices_Equal_Elem_l F r5.1 r4.1 r9 hb10 w' A9 c9 (SlOk.mono (SlOk.mono hs9 (View.le_trans (made_le _ _) (View.le_trans (View.le_trans hV6 hV7) hV8))) hh.view) A4 c4 (SlOk.mono (SlOk.mono hs4 (View.le_trans (made_le _ _) (View.le_trans (View.le_trans (View.le_trans hV5 hV6) hV7) hV8))) hh.view)) ?_)
          intro u V10 hV10 hu
          obtain rfl := sureBool _ _ _ hu
          refine T.pure (.bool (!r9)) (by kernel_rfl) (fun _ => by kernel_rfl) ?_
          refine T.pure (.bool (!r9)) (by kernel_rfl) (fun _ => by kernel_rfl) ?_
          refine T.pure (.bool (!r9)) (by kernel_rfl) (fun _ => by kernel_rfl) ?_
          cases hg7 : (!r9)
          ·
           skip
           rw [hg7, cond_false] at hX2
           refine T.pure (.int .i64 r5.2.1) (by kernel_rfl) (fun _ => by kernel_rfl) ?_
           refine T.pure (.int .i64 z1) (by kernel_rfl) (fun _ => by kernel_rfl) ?_
           refine T.pure (.bool (decide (z1 < r5.2.1))) (by kernel_rfl) (fun _ => by kernel_rfl) ?_
           refine T.pure (.bool (decide (z1 < r5.2.1))) (by kernel_rfl) (fun _ => by kernel_rfl) ?_
           refine T.pure (.bool (decide (z1 < r5.2.1))) (by kernel_rfl) (fun _ => by kernel_rfl) ?_
           cases hg8 : decide (z1 < r5.2.1)
           ·
            skip
            rw [hg8, cond_false] at hX2
            refine T.pure (.slice A10 r6.1.length c10) (by kernel_rfl) (fun _ => by kernel_rfl) ?_
            refine T.pure (.int .i64 (r6.1.length : Int)) (by kernel_rfl) (fun _ => by kernel_rfl) ?_
            refine T.pure (.bool ((r6.1.length : Int) != 0)) (by kernel_rfl) (fun _ => by kernel_rfl) ?_
            refine T.pure (.bool ((r6.1.length : Int) != 0)) (by kernel_rfl) (fun _ => by kernel_rfl) ?_
            refine T.pure (.bool ((r6.1.length : Int) != 0)) (by kernel_rfl) (fun _ => by kernel_rfl) ?_
            cases hg9 : ((r6.1.length : Int) != 0)
            ·
             skip
             rw [hg9, cond_false] at hX2
             refine T.pure (.int .i64 r6.2.1) (by kernel_rfl) (fun _ => by kernel_rfl) ?_
             refine T.pure (.bool (r6.2.1 != 0)) (by kernel_rfl) (fun _ => by kernel_rfl) ?_
             refine T.pure (.bool (r6.2.1 != 0)) (by kernel_rfl) (fun _ => by kernel_rfl) ?_
             refine T.pure (.bool (r6.2.1 != 0)) (by kernel_rfl) (fun _ => by kernel_rfl) ?_
             cases hg10 : (r6.2.1 != 0)
             ·
              skip
              rw [hg10, cond_false] at hX2
              refine T.pure (.int .i64 r7.2.1) (by kernel_rfl) (fun _ => by kernel_rfl) ?_
              refine T.pure (.int .i64 r8.2.1) (by kernel_rfl) (fun _ => by kernel_rfl) ?_
              refine T.pure (.bool (decide (r7.2.1 < r8.2.1))) (by kernel_rfl) (fun _ => by kernel_rfl) ?_
              refine T.pure (.bool (decide (r7.2.1 < r8.2.1))) (by kernel_rfl) (fun _ => by kernel_rfl) ?_
              refine T.pure (.bool (decide (r7.2.1 < r8.2.1))) (by kernel_rfl) (fun _ => by kernel_rfl) ?_
              cases hg11 : decide (r7.2.1 < r8.2.1)
              ·
               skip
               rw [hg11, cond_false] at hX2
               refine T.pure (.int .i64 r8.2.1) (by kernel_rfl) (fun _ => by kernel_rfl) ?_
               refine T.pure (.int .i64 z1) (by kernel_rfl) (fun _ => by kernel_rfl) ?_
               refine T.pure (.bool (decide (z1 < r8.2.1))) (by kernel_rfl) (fun _ => by kernel_rfl) ?_
               refine T.pure (.bool (decide (z1 < r8.2.1))) (by kernel_rfl) (fun _ => by kernel_rfl) ?_
               refine T.nil ?_
               cases hX2
               exact fun a w' hf hh => Exists.intro V10 (And.intro hV10 (And.intro ((((((Fr.nil hf).pick hf 140 rfl).pick hf 23 rfl).pick hf 20 rfl).pick hf 2 rfl).pick hf 1 rfl) (hh.sub (.cons _ List.Sublist.slnil))))
              ·
               skip
               rw [hg11, cond_true] at hX2
               refine T.pass (by kernel_rfl) (by kernel_rfl) ?_
               refine T.pass (by kernel_rfl) (by kernel_rfl) ?_
               refine T.pass (by kernel_rfl) (by kernel_rfl) ?_
               refine T.pure (.bool true) (by kernel_rfl) (fun _ => by kernel_rfl) ?_
               refine T.nil ?_
               cases hX2
               exact fun a w' hf hh => Exists.intro V10 (And.intro hV10 (And.intro ((((((Fr.nil hf).pick hf 140 rfl).pick hf 23 rfl).pick hf 20 rfl).pick hf 2 rfl).pick hf 1 rfl) (hh.sub (.cons _ List.Sublist.slnil))))
             ·
              skip
              rw [hg10, cond_true] at hX2
              refine T.pass (by kernel_rfl) (by kernel_rfl) ?_
              refine T.pass (by kernel_rfl) (by kernel_rfl) ?_
              refine T.pass (by kernel_rfl) (by kernel_rfl) ?_
              refine T.pure (.bool true) (by kernel_rfl) (fun _ => by kernel_rfl) ?_
              refine T.pure (.bool true) (by kernel_rfl) (fun _ => by kernel_rfl) ?_
              refine T.pass (by kernel_rfl) (by kernel_rfl) ?_
              refine T.pass (by kernel_rfl) (by kernel_rfl) ?_
              refine T.pass (by kernel_rfl) (by kernel_rfl) ?_
              refine T.pure (.bool true) (by kernel_rfl) (fun _ => by kernel_rfl) ?_
              refine T.nil ?_
              cases hX2
              exact fun a w' hf hh => Exists.intro V10 (And.intro hV10 (And.intro ((((((Fr.nil hf).pick hf 140 rfl).pick hf 23 rfl).pick hf 20 rfl).pick hf 2 rfl).pick hf 1 rfl) (hh.sub (.cons _ List.Sublist.slnil))))
            ·
             skip
             rw [hg9, cond_true] at hX2
             refine T.pass (by kernel_rfl) (by kernel_rfl) ?_
             refine T.pass (by kernel_rfl) (by kernel_rfl) ?_
             refine T.pure (.bool true) (by kernel_rfl) (fun _ => by kernel_rfl) ?_
             refine T.pure (.bool true) (by kernel_rfl) (fun _ => by kernel_rfl) ?_
             refine T.pass (by kernel_rfl) (by kernel_rfl) ?_
             refine T.pass (by kernel_rfl) (by kernel_rfl) ?_
             refine T.pass (by kernel_rfl) (by kernel_rfl) ?_
             refine T.pure (.bool true) (by kernel_rfl) (fun _ => by kernel_rfl) ?_
             refine T.pure (.bool true) (by kernel_rfl) (fun _ => by kernel_rfl) ?_
             refine T.pass (by kernel_rfl) (by kernel_rfl) ?_
             refine T.pass (by kernel_rfl) (by kernel_rfl) ?_
             refine T.pass (by kernel_rfl) (by kernel_rfl) ?_
             refine T.pure (.bool true) (by kernel_rfl) (fun _ => by kernel_rfl) ?_
             refine T.nil ?_
             cases hX2
             exact fun a w' hf hh => Exists.intro V10 (And.intro hV10 (And.intro ((((((Fr.nil hf).pick hf 140 rfl).pick hf 23 rfl).pick hf 20 rfl).pick hf 2 rfl).pick hf 1 rfl) (hh.sub (.cons _ List.Sublist.slnil))))
           ·
            skip
            rw [hg8, cond_true] at hX2
            refine T.pass (by kernel_rfl) (by kernel_rfl) ?_
            refine T.pass (by kernel_rfl) (by kernel_rfl) ?_
            refine T.pass (by kernel_rfl) (by kernel_rfl) ?_
            refine T.pure (.bool true) (by kernel_rfl) (fun _ => by kernel_rfl) ?_
            refine T.pure (.bool true) (by kernel_rfl) (fun _ => by kernel_rfl) ?_
            refine T.pass (by kernel_rfl) (by kernel_rfl) ?_
            refine T.pass (by kernel_rfl) (by kernel_rfl) ?_
            refine T.pure (.bool true) (by kernel_rfl) (fun _ => by kernel_rfl) ?_
            refine T.pure (.bool true) (by kernel_rfl) (fun _ => by kernel_rfl) ?_
            refine T.pass (by kernel_rfl) (by kernel_rfl) ?_
            refine T.pass (by kernel_rfl) (by kernel_rfl) ?_
            refine T.pass (by kernel_rfl) (by kernel_rfl) ?_
            refine T.pure (.bool true) (by kernel_rfl) (fun _ => by kernel_rfl) ?_
            refine T.pure (.bool true) (by kernel_rfl) (fun _ => by kernel_rfl) ?_
            refine T.pass (by kernel_rfl) (by kernel_rfl) ?_
            refine T.pass (by kernel_rfl) (by kernel_rfl) ?_
            refine T.pass (by kernel_rfl) (by kernel_rfl) ?_
            refine T.pure (.bool true) (by kernel_rfl) (fun _ => by kernel_rfl) ?_
            refine T.nil ?_
            cases hX2
            exact fun a w' hf hh => Exists.intro V10 (And.intro hV10 (And.intro ((((((Fr.nil hf).pick hf 140 rfl).pick hf 23 rfl).pick hf 20 rfl).pick hf 2 rfl).pick hf 1 rfl) (hh.sub (.cons _ List.Sublist.slnil))))
          ·
           skip
           rw [hg7, cond_true] at hX2
           refine T.pass (by kernel_rfl) (by kernel_rfl) ?_
           refine T.pass (by kernel_rfl) (by kernel_rfl) ?_
           refine T.pass (by kernel_rfl) (by kernel_rfl) ?_
           refine T.pure (.bool true) (by kernel_rfl) (fun _ => by kernel_rfl) ?_
           refine T.pure (.bool true) (by kernel_rfl) (fun _ => by kernel_rfl) ?_
           refine T.pass (by kernel_rfl) (by kernel_rfl) ?_
           refine T.pass (by kernel_rfl) (by kernel_rfl) ?_
           refine T.pass (by kernel_rfl) (by kernel_rfl) ?_
           refine T.pure (.bool true) (by kernel_rfl) (fun _ => by kernel_rfl) ?_
           refine T.pure (.bool true) (by kernel_rfl) (fun _ => by kernel_rfl) ?_
           refine T.pass (by kernel_rfl) (by kernel_rfl) ?_
           refine T.pass (by kernel_rfl) (by kernel_rfl) ?_
           refine T.pure (.bool true) (by kernel_rfl) (fun _ => by kernel_rfl) ?_
           refine T.pure (.bool true) (by kernel_rfl) (fun _ => by kernel_rfl) ?_
           refine T.pass (by kernel_rfl) (by kernel_rfl) ?_
           refine T.pass (by kernel_rfl) (by kernel_rfl) ?_
           refine T.pass (by kernel_rfl) (by kernel_rfl) ?_
           refine T.pure (.bool true) (by kernel_rfl) (fun _ => by kernel_rfl) ?_
           refine T.pure (.bool true) (by kernel_rfl) (fun _ => by kernel_rfl) ?_
           refine T.pass (by kernel_rfl) (by kernel_rfl) ?_
           refine T.pass (by kernel_rfl) (by kernel_rfl) ?_
           refine T.pass (by kernel_rfl) (by kernel_rfl) ?_
           refine T.pure (.bool true) (by kernel_rfl) (fun _ => by kernel_rfl) ?_
           refine T.nil ?_
           cases hX2
           exact fun a w' hf hh => Exists.intro V10 (And.intro hV10 (And.intro ((((((Fr.nil hf).pick hf 140 rfl).pick hf 23 rfl).pick hf 20 rfl).pick hf 2 rfl).pick hf 1 rfl) (hh.sub (.cons _ List.Sublist.slnil))))
         ·
          skip
          rw [hg6, cond_true] at hX2
          refine T.pass (by kernel_rfl) (by kernel_rfl) ?_
          refine T.pass (by kernel_rfl) (by kernel_rfl) ?_
          refine T.pass (by kernel_rfl) (by kernel_rfl) ?_
          refine T.pass (by kernel_rfl) (by kernel_rfl) ?_
          refine T.pure (.bool true) (by kernel_rfl) (fun _ => by kernel_rfl) ?_
          refine T.pure (.bool true) (by kernel_rfl) (fun _ => by kernel_rfl) ?_
          refine T.pass (by kernel_rfl) (by kernel_rfl) ?_
          refine T.pass (by kernel_rfl) (by kernel_rfl) ?_
          refine T.pass (by kernel_rfl) (by kernel_rfl) ?_
          refine T.pure (.bool true) (by kernel_rfl) (fun _ => by kernel_rfl) ?_
          refine T.pure (.bool true) (by kernel_rfl) (fun _ => by kernel_rfl) ?_
          refine T.pass (by kernel_rfl) (by kernel_rfl) ?_
          refine T.pass (by kernel_rfl) (by kernel_rfl) ?_
          refine T.pass (by kernel_rfl) (by kernel_rfl) ?_
          refine T.pure (.bool true) (by kernel_rfl) (fun _ => by kernel_rfl) ?_
          refine T.pure (.bool true) (by kernel_rfl) (fun _ => by kernel_rfl) ?_
          refine T.pass (by kernel_rfl) (by kernel_rfl) ?_
          refine T.pass (by kernel_rfl) (by kernel_rfl) ?_
          refine T.pure (.bool true) (by kernel_rfl) (fun _ => by kernel_rfl) ?_
          refine T.pure (.bool true) (by kernel_rfl) (fun _ => by kernel_rfl) ?_
          refine T.pass (by kernel_rfl) (by kernel_rfl) ?_
          refine T.pass (by kernel_rfl) (by kernel_rfl) ?_
          refine T.pass (by kernel_rfl) (by kernel_rfl) ?_
          refine T.pure (.bool true) (by kernel_rfl) (fun _ => by kernel_rfl) ?_
          refine T.pure (.bool true) (by kernel_rfl) (fun _ => by kernel_rfl) ?_
          refine T.pass (by kernel_rfl) (by kernel_rfl) ?_
          refine T.pass (by kernel_rfl) (by kernel_rfl) ?_
          refine T.pass (by kernel_rfl) (by kernel_rfl) ?_
          refine T.pure (.bool true) (by kernel_rfl) (fun _ => by kernel_rfl) ?_
          refine T.nil ?_
          cases hX2
          exact fun a w' hf hh => Exists.intro V8 (And.intro (View.le_refl _) (And.intro ((((((Fr.nil hf).pick hf 140 rfl).pick hf 23 rfl).pick hf 20 rfl).pick hf 2 rfl).pick hf 1 rfl) (hh.sub (.cons _ List.Sublist.slnil))))
        ·
         skip
         rw [hg5, cond_true] at hX2
         refine T.pass (by kernel_rfl) (by kernel_rfl) ?_
         refine T.pass (by kernel_rfl) (by kernel_rfl) ?_
         refine T.pure (.bool true) (by kernel_rfl) (fun _ => by kernel_rfl) ?_
         refine T.pure (.bool true) (by kernel_rfl) (fun _ => by kernel_rfl) ?_
         refine T.pass (by kernel_rfl) (by kernel_rfl) ?_
         refine T.pass (by kernel_rfl) (by kernel_rfl) ?_
         refine T.pass (by kernel_rfl) (by kernel_rfl) ?_
         refine T.pass (by kernel_rfl) (by kernel_rfl) ?_
         refine T.pure (.bool true) (by kernel_rfl) (fun _ => by kernel_rfl) ?_
         refine T.pure (.bool true) (by kernel_rfl) (fun _ => by kernel_rfl) ?_
         refine T.pass (by kernel_rfl) (by kernel_rfl) ?_
         refine T.pass (by kernel_rfl) (by kernel_rfl) ?_
         refine T.pass (by kernel_rfl) (by kernel_rfl) ?_
         refine T.pure (.bool true) (by kernel_rfl) (fun _ => by kernel_rfl) ?_
         refine T.pure (.bool true) (by kernel_rfl) (fun _ => by kernel_rfl) ?_
         refine T.pass (by kernel_rfl) (by kernel_rfl) ?_
         refine T.pass (by kernel_rfl) (by kernel_rfl) ?_
         refine T.pass (by kernel_rfl) (by kernel_rfl) ?_
         refine T.pure (.bool true) (by kernel_rfl) (fun _ => by kernel_rfl) ?_
         refine T.pure (.bool true) (by kernel_rfl) (fun _ => by kernel_rfl) ?_
         refine T.pass (by kernel_rfl) (by kernel_rfl) ?_
         refine T.pass (by kernel_rfl) (by kernel_rfl) ?_
         refine T.pure (.bool true) (by kernel_rfl) (fun _ => by kernel_rfl) ?_
         refine T.pure (.bool true) (by kernel_rfl) (fun _ => by kernel_rfl) ?_
         refine T.pass (by kernel_rfl) (by kernel_rfl) ?_
         refine T.pass (by kernel_rfl) (by kernel_rfl) ?_
         refine T.pass (by kernel_rfl) (by kernel_rfl) ?_
         refine T.pure (.bool true) (by kernel_rfl) (fun _ => by kernel_rfl) ?_
         refine T.pure (.bool true) (by kernel_rfl) (fun _ => by kernel_rfl) ?_
         refine T.pass (by kernel_rfl) (by kernel_rfl) ?_
         refine T.pass (by kernel_rfl) (by kernel_rfl) ?_
         refine T.pass (by kernel_rfl) (by kernel_rfl) ?_
         refine T.pure (.bool true) (by kernel_rfl) (fun _ => by kernel_rfl) ?_
         refine T.nil ?_
         cases hX2
         exact fun a w' hf hh => Exists.intro V8 (And.intro (View.le_refl _) (And.intro ((((((Fr.nil hf).pick hf 140 rfl).pick hf 23 rfl).pick hf 20 rfl).pick hf 2 rfl).pick hf 1 rfl) (hh.sub (.cons _ List.Sublist.slnil))))
       ·
        skip
        rw [hg4, cond_true] at hX2
        refine T.pass (by kernel_rfl) (by kernel_rfl) ?_
        refine T.pass (by kernel_rfl) (by kernel_rfl) ?_
        refine T.pure (.bool true) (by kernel_rfl) (fun _ => by kernel_rfl) ?_
        refine T.pure (.bool true) (by kernel_rfl) (fun _ => by kernel_rfl) ?_
        refine T.pass (by kernel_rfl) (by kernel_rfl) ?_
        refine T.pass (by kernel_rfl) (by kernel_rfl) ?_
        refine T.pure (.bool true) (by kernel_rfl) (fun _ => by kernel_rfl) ?_
        refine T.pure (.bool true) (by kernel_rfl) (fun _ => by kernel_rfl) ?_
        refine T.pass (by kernel_rfl) (by kernel_rfl) ?_
        refine T.pass (by kernel_rfl) (by kernel_rfl) ?_
        refine T.pass (by kernel_rfl) (by kernel_rfl) ?_
        refine T.pass (by kernel_rfl) (by kernel_rfl) ?_
        refine T.pure (.bool true) (by kernel_rfl) (fun _ => by kernel_rfl) ?_
        refine T.pure (.bool true) (by kernel_rfl) (fun _ => by kernel_rfl) ?_
        refine T.pass (by kernel_rfl) (by kernel_rfl) ?_
        refine T.pass (by kernel_rfl) (by kernel_rfl) ?_
        refine T.pass (by kernel_rfl) (by kernel_rfl) ?_
        refine T.pure (.bool true) (by kernel_rfl) (fun _ => by kernel_rfl) ?_
        refine T.pure (.bool true) (by kernel_rfl) (fun _ => by kernel_rfl) ?_
        refine T.pass (by kernel_rfl) (by kernel_rfl) ?_
        refine T.pass (by kernel_rfl) (by kernel_rfl) ?_
        refine T.pass (by kernel_rfl) (by kernel_rfl) ?_
        refine T.pure (.bool true) (by kernel_rfl) (fun _ => by kernel_rfl) ?_
        refine T.pure (.bool true) (by kernel_rfl) (fun _ => by kernel_rfl) ?_
        refine T.pass (by kernel_rfl) (by kernel_rfl) ?_
        refine T.pass (by kernel_rfl) (by kernel_rfl) ?_
        refine T.pure (.bool true) (by kernel_rfl) (fun _ => by kernel_rfl) ?_
        refine T.pure (.bool true) (by kernel_rfl) (fun _ => by kernel_rfl) ?_
        refine T.pass (by kernel_rfl) (by kernel_rfl) ?_
        refine T.pass (by kernel_rfl) (by kernel_rfl) ?_
        refine T.pass (by kernel_rfl) (by kernel_rfl) ?_
        refine T.pure (.bool true) (by kernel_rfl) (fun _ => by kernel_rfl) ?_
        refine T.pure (.bool true) (by kernel_rfl) (fun _ => by kernel_rfl) ?_
        refine T.pass (by kernel_rfl) (by kernel_rfl) ?_
        refine T.pass (by kernel_rfl) (by kernel_rfl) ?_
        refine T.pass (by kernel_rfl) (by kernel_rfl) ?_
        refine T.pure (.bool true) (by kernel_rfl) (fun _ => by kernel_rfl) ?_
        refine T.nil ?_
        cases hX2
        exact fun a w' hf hh => Exists.intro V8 (And.intro (View.le_refl _) (And.intro ((((((Fr.nil hf).pick hf 140 rfl).pick hf 23 rfl).pick hf 20 rfl).pick hf 2 rfl).pick hf 1 rfl) (hh.sub (.cons _ List.Sublist.slnil))))
      ·
       skip
       rw [hg3, cond_true] at hX2
       refine T.pass (by kernel_rfl) (by kernel_rfl) ?_
       refine T.pass (by kernel_rfl) (by kernel_rfl) ?_
       refine T.pure (.bool true) (by kernel_rfl) (fun _ => by kernel_rfl) ?_
       refine T.pure (.bool true) (by kernel_rfl) (fun _ => by kernel_rfl) ?_
       refine T.pass (by kernel_rfl) (by kernel_rfl) ?_
       refine T.pass (by kernel_rfl) (by kernel_rfl) ?_
       refine T.pure (.bool true) (by kernel_rfl) (fun _ => by kernel_rfl) ?_
       refine T.pure (.bool true) (by kernel_rfl) (fun _ => by kernel_rfl) ?_
       refine T.pass (by kernel_rfl) (by kernel_rfl) ?_
       refine T.pass (by kernel_rfl) (by kernel_rfl) ?_
       refine T.pure (.bool true) (by kernel_rfl) (fun _ => by kernel_rfl) ?_
       refine T.pure (.bool true) (by kernel_rfl) (fun _ => by kernel_rfl) ?_
       refine T.pass (by kernel_rfl) (by kernel_rfl) ?_
       refine T.pass (by kernel_rfl) (by kernel_rfl) ?_
       refine T.pass (by kernel_rfl) (by kernel_rfl) ?_
       refine T.pass (by kernel_rfl) (by kernel_rfl) ?_
       refine T.pure (.bool true) (by kernel_rfl) (fun _ => by kernel_rfl) ?_
       refine T.pure (.bool true) (by kernel_rfl) (fun _ => by kernel_rfl) ?_
       refine T.pass (by kernel_rfl) (by kernel_rfl) ?_
       refine T.pass (by kernel_rfl) (by kernel_rfl) ?_
       refine T.pass (by kernel_rfl) (by kernel_rfl) ?_
       refine T.pure (.bool true) (by kernel_rfl) (fun _ => by kernel_rfl) ?_
       refine T.pure (.bool true) (by kernel_rfl) (fun _ => by kernel_rfl) ?_
       refine T.pass (by kernel_rfl) (by kernel_rfl) ?_
       refine T.pass (by kernel_rfl) (by kernel_rfl) ?_
       refine T.pass (by kernel_rfl) (by kernel_rfl) ?_
       refine T.pure (.bool true) (by kernel_rfl) (fun _ => by kernel_rfl) ?_
       refine T.pure (.bool true) (by kernel_rfl) (fun _ => by kernel_rfl) ?_
       refine T.pass (by kernel_rfl) (by kernel_rfl) ?_
       refine T.pass (by kernel_rfl) (by kernel_rfl) ?_
       refine T.pure (.bool true) (by kernel_rfl) (fun _ => by kernel_rfl) ?_
       refine T.pure (.bool true) (by kernel_rfl) (fun _ => by kernel_rfl) ?_
       refine T.pass (by kernel_rfl) (by kernel_rfl) ?_
       refine T.pass (by kernel_rfl) (by kernel_rfl) ?_
       refine T.pass (by kernel_rfl) (by kernel_rfl) ?_
       refine T.pure (.bool true) (by kernel_rfl) (fun _ => by kernel_rfl) ?_
       refine T.pure (.bool true) (by kernel_rfl) (fun _ => by kernel_rfl) ?_
       refine T.pass (by kernel_rfl) (by kernel_rfl) ?_
       refine T.pass (by kernel_rfl) (by kernel_rfl) ?_
       refine T.pass (by kernel_rfl) (by kernel_rfl) ?_
       refine T.pure (.bool true) (by kernel_rfl) (fun _ => by kernel_rfl) ?_
       refine T.nil ?_
       cases hX2
       exact fun a w' hf hh => Exists.intro V8 (And.intro (View.le_refl _) (And.intro ((((((Fr.nil hf).pick hf 140 rfl).pick hf 23 rfl).pick hf 20 rfl).pick hf 2 rfl).pick hf 1 rfl) (hh.sub (.cons _ List.Sublist.slnil))))
     ·
      rintro a w' ⟨V9, hV9, hf, hh⟩
      refine (?_ : T 160 w V9 [] [(1, .int .i64 p1), (2, .int .i64 p2), (20, .slice A11 r7.1.length c11), (23, .slice A12 r8.1.length c12), (140, .bool z3)] _) a w' hf hh
      clear hf hh
      refine T.cond z3 (by kernel_rfl) (by kernel_rfl) (fun hc6 => ?_) (fun hc6 => ?_)
      ·
       rw [hc6, cond_true] at hF
       refine T.seq ?_
       refine T.region ?_
       refine T.pure (.bool false) (by kernel_rfl) (fun _ => by kernel_rfl) ?_
       refine T.nil ?_
       cases hF
       refine T.ret rfl ?_
       exact T.ret1 rfl (ResIs.tmp rfl) fun w' hh => ⟨_, rfl, hh.below, (show _ from rfl)⟩
      ·
       rw [hc6, cond_false] at hF
       refine T.skip_code ?_
       refine T.seq ?_
       refine T.seq ?_
       refine T.region ?_
       refine T.pure (.slice A12 r8.1.length c12) (by kernel_rfl) (fun _ => by kernel_rfl) ?_
       refine T.pure (.int .i64 (r8.1.length : Int)) (by kernel_rfl) (fun _ => by kernel_rfl) ?_
       refine T.pure (.int .i64 0) (by kernel_rfl) (fun _ => by kernel_rfl) ?_
       refine T.nil ?_
       obtain ⟨q1, hz2, hF⟩ := Option.bind_eq_some_iff.1 hF
       refine T.mid (fun a w' => q1 = Sum.inl () ∧ ∃ (V12 : View), View.le V9 V12 ∧ Fr 160 [] a ∧ Hp w V12 [] w') ?_ ?_
       ·
        refine T.block ?_
        refine T.iter (fun x3 a w' => ∃ (V11 : View), View.le V9 V11 ∧ Fr 160 [(1, .int .i64 p1), (2, .int .i64 p2), (20, .slice A11 r7.1.length c11), (141, .slice A12 r8.1.length c12), (142, .int .i64 (r8.1.length : Int)), (143, .int .i64 x3)] a ∧ Hp w V11 [] w') hz2 ?_ ?_
        ·
         exact fun a w' hf hh => Exists.intro V9 (And.intro (View.le_refl _) (And.intro (((((((Fr.nil hf).pick hf 143 rfl).pick hf 142 rfl).pick hf 141 rfl).pick hf 20 rfl).pick hf 2 rfl).pick hf 1 rfl) (hh.sub List.Sublist.slnil)))
        ·
         rintro x3 y2 hY2 hr4 a w' ⟨V11, hV11, hf, hh⟩
         refine (?_ : T 160 w V11 [] [(1, .int .i64 p1), (2, .int .i64 p2), (20, .slice A11 r7.1.length c11), (141, .slice A12 r8.1.length c12), (142, .int .i64 (r8.1.length : Int)), (143, .int .i64 x3)] _) a w' hf hh
         clear hf hh
         try dsimp only at hY2
         refine T.seq ?_
         refine T.region ?_
         refine T.pure (.bool (decide (x3 < (r8.1.length : Int)))) (by kernel_rfl) (fun _ => by kernel_rfl) ?_
         refine T.nil ?_
         refine T.seq ?_
         refine T.cond (decide (x3 < (r8.1.length : Int))) (by kernel_rfl) (by kernel_rfl) (fun hc7 => ?_) (fun hc7 => ?_)
         ·
          rw [hc7, cond_true] at hY2
          refine T.skip_code ?_
          refine T.seq ?_
          refine T.block ?_
          refine T.seq ?_
          refine T.region ?_
          obtain ⟨e2, hb11, hY2⟩ := Option.bind_eq_some_iff.1 hY2
          obtain ⟨hi4, hi5, hi6⟩ := idx_some hb11
          refine T.look (.pointer (some ((sadr A12).add (x3.toNat * 6)))) (by kernel_rfl) (fun w' hh => exec_indexAddr (e := 39) (s := 6) rfl rfl rfl (by kernel_rfl) (by kernel_rfl) hi4 hi5 ((SlOk.mono hs12 (View.le_trans (made_le _ _) (View.le_trans hV9 hV11))).some_ hi6 (by decide))) ?_
          refine T.look (.agg #[.int .i64 e2.key.pfs, .int .i64 e2.key.obj, .int .i64 e2.key.off, .int .i64 e2.made, .int .i64 e2.gone, .string e2.val]) (by kernel_rfl) (fun w' hh => exec_loadN (cs := [.int .i64 e2.key.pfs, .int .i64 e2.key.obj, .int .i64 e2.key.off, .int .i64 e2.made, .int .i64 e2.gone, .string e2.val]) rfl rfl (by kernel_rfl) (by kernel_rfl) (fun j u hj => (hh.cell_view (SlOk.cellF (E := eElem) (SlOk.mono hs12 (View.le_trans (made_le _ _) (View.le_trans hV9 hV11))) hi6 j (fun _ _ _ h => h) hj)))) ?_
          refine T.step (W1.new 39 [.int .i64 0, .int .i64 0, .int .i64 0, .int .i64 0, .int .i64 0, .string (ByteArray.mk #[])] (fun b => .pointer (some ⟨b, 0, none⟩)) (by kernel_rfl) (fun _ => by kernel_rfl) (fun b4 => ?_))
          refine T.step (W1.store 0 [.int .i64 e2.key.pfs, .int .i64 e2.key.obj, .int .i64 e2.key.off, .int .i64 e2.made, .int .i64 e2.gone, .string e2.val] [box b4 39 [.int .i64 e2.key.pfs, .int .i64 e2.key.obj, .int .i64 e2.key.off, .int .i64 e2.made, .int .i64 e2.gone, .string e2.val]] (by rfl) rfl (by kernel_rfl) (fun w' hw => exec_store (vs := [.int .i64 e2.key.pfs, .int .i64 e2.key.obj, .int .i64 e2.key.off, .int .i64 e2.made, .int .i64 e2.gone, .string e2.val]) rfl rfl rfl rfl (by kernel_rfl) (one_of rfl) (by simp) rfl hw) ?_)
          refine T.nil ?_
          obtain ⟨z4, hX3, hY2⟩ := Option.bind_eq_some_iff.1 hY2
          refine T.cut (fun a w' => ∃ (V13 : View), View.le V11 V13 ∧ Fr 160 [(1, .int .i64 p1), (2, .int .i64 p2), (20, .slice A11 r7.1.length c11), (141, .slice A12 r8.1.length c12), (142, .int .i64 (r8.1.length : Int)), (143, .int .i64 x3), (158, .bool z4)] a ∧ Hp w V13 [] w') ?_ ?_
          ·
           refine T.region ?_
           refine T.pure (.slice A11 r7.1.length c11) (by kernel_rfl) (fun _ => by kernel_rfl) ?_
           refine T.look (.agg #[.int .i64 e2.key.pfs, .int .i64 e2.key.obj, .int .i64 e2.key.off, .int .i64 e2.made, .int .i64 e2.gone, .string e2.val]) (by kernel_rfl) (fun w' hh => exec_loadN (cs := [.int .i64 e2.key.pfs, .int .i64 e2.key.obj, .int .i64 e2.key.off, .int .i64 e2.made, .int .i64 e2.gone, .string e2.val]) rfl rfl (by kernel_rfl) (by kernel_rfl) (fun j u hj => (hh.box_at (i := 0) (cs := [.int .i64 e2.key.pfs, .int .i64 e2.key.obj, .int .i64 e2.key.off, .int .i64 e2.made, .int .i64 e2.gone, .string e2.val]) (by rfl) 0 j).trans (seg_at (n := 6) (by rfl) hj))) ?_
           obtain ⟨r10, hb12, hX3⟩ := Option.bind_eq_some_iff.1 hX3
           refine T.step (W1.call (vSc eBool) r10 27 #[.slice A11 r7.1.length c11, .agg #[.int .i64 e2.key.pfs, .int .i64 e2.key.obj, .int .i64 e2.key.off, .int .i64 e2.made, .int .i64 e2.gone, .string e2.val]] (by kernel_rfl) (fun _ => by kernel_rfl) (fun w' hh => slices_Contains_Elem_l F r7.1 e2 r10 hb12 w' A11 c11 (SlOk.mono (SlOk.mono hs11 (View.le_trans (made_le _ _) (View.le_trans (View.le_trans hV8 hV9) hV11))) hh.view)) ?_)
           intro u V14 hV14 hu
           obtain rfl := sureBool _ _ _ hu
           refine T.pure (.bool (!r10)) (by kernel_rfl) (fun _ => by kernel_rfl) ?_
           refine T.pure (.bool (!r10)) (by kernel_rfl) (fun _ => by kernel_rfl) ?_
           cases hg12 : (!r10)
           ·
            skip
            rw [hg12, cond_false] at hX3
            refine T.look (.agg #[.int .i64 e2.key.pfs, .int .i64 e2.key.obj, .int .i64 e2.key.off, .int .i64 e2.made, .int .i64 e2.gone, .string e2.val]) (by kernel_rfl) (fun w' hh => exec_loadN (cs := [.int .i64 e2.key.pfs, .int .i64 e2.key.obj, .int .i64 e2.key.off, .int .i64 e2.made, .int .i64 e2.gone, .string e2.val]) rfl rfl (by kernel_rfl) (by kernel_rfl) (fun j u hj => (hh.box_at (i := 0) (cs := [.int .i64 e2.key.pfs, .int .i64 e2.key.obj, .int .i64 e2.key.off, .int .i64 e2.made, .int .i64 e2.gone, .string e2.val]) (by rfl) 0 j).trans (seg_at (n := 6) (by rfl) hj))) ?_
            obtain ⟨r11, hb13, hX3⟩ := Option.bind_eq_some_iff.1 hX3
            refine T.step (W1.call (vSc eInt) r11 28 #[.agg #[.int .i64 e2.key.pfs, .int .i64 e2.key.obj, .int .i64 e2.key.off, .int .i64 e2.made, .int .i64 e2.gone, .string e2.val]] (by kernel_rfl) (fun _ => by kernel_rfl) (fun w' hh => elem_Last_l e2 r11 hb13 w' ) ?_)
            intro u V15 hV15 hu
            obtain rfl := sureInt _ _ _ hu
            refine T.pure (.int .i64 p1) (by kernel_rfl) (fun _ => by kernel_rfl) ?_
            refine T.pure (.int .i64 p2) (by kernel_rfl) (fun _ => by kernel_rfl) ?_
            refine T.pure (.int .i64 (if p1 < p2 then p2 else p1)) (by kernel_rfl) (fun _ => by kernel_rfl) ?_
            refine T.pure (.bool (decide (r11 ≤ (if p1 < p2 then p2 else p1)))) (by kernel_rfl) (fun _ => by kernel_rfl) ?_
            refine T.pure (.bool (decide (r11 ≤ (if p1 < p2 then p2 else p1)))) (by kernel_rfl) (fun _ => by kernel_rfl) ?_
            refine T.nil ?_
            cases hX3
            exact fun a w' hf hh => Exists.intro V15 (And.intro (View.le_trans hV14 hV15) (And.intro ((((((((Fr.nil hf).pick hf 158 rfl).pick hf 143 rfl).pick hf 142 rfl).pick hf 141 rfl).pick hf 20 rfl).pick hf 2 rfl).pick hf 1 rfl) (hh.sub (.cons _ List.Sublist.slnil))))
           ·
            skip
            rw [hg12, cond_true] at hX3
            refine T.pass (by kernel_rfl) (by kernel_rfl) ?_
            refine T.pass (by kernel_rfl) (by kernel_rfl) ?_
            refine T.pass (by kernel_rfl) (by kernel_rfl) ?_
            refine T.pass (by kernel_rfl) (by kernel_rfl) ?_
            refine T.pass (by kernel_rfl) (by kernel_rfl) ?_
            refine T.pass (by kernel_rfl) (by kernel_rfl) ?_
            refine T.pure (.bool true) (by kernel_rfl) (fun _ => by kernel_rfl) ?_
            refine T.nil ?_
            cases hX3
            exact fun a w' hf hh => Exists.intro V14 (And.intro hV14 (And.intro ((((((((Fr.nil hf).pick hf 158 rfl).pick hf 143 rfl).pick hf 142 rfl).pick hf 141 rfl).pick hf 20 rfl).pick hf 2 rfl).pick hf 1 rfl) (hh.sub (.cons _ List.Sublist.slnil))))
          ·
           rintro a w' ⟨V13, hV13, hf, hh⟩
           refine (?_ : T 160 w V13 [] [(1, .int .i64 p1), (2, .int .i64 p2), (20, .slice A11 r7.1.length c11), (141, .slice A12 r8.1.length c12), (142, .int .i64 (r8.1.length : Int)), (143, .int .i64 x3), (158, .bool z4)] _) a w' hf hh
           clear hf hh
           refine T.cond z4 (by kernel_rfl) (by kernel_rfl) (fun hc8 => ?_) (fun hc8 => ?_)
           ·
            rw [hc8, cond_true] at hY2
            refine T.seq ?_
            refine T.region ?_
            refine T.pure (.bool false) (by kernel_rfl) (fun _ => by kernel_rfl) ?_
            refine T.nil ?_
            cases hY2
            cases (hr4 _ rfl)
            try dsimp only at hF
            cases hF
            refine T.ret rfl ?_
            exact T.ret1 rfl (ResIs.tmp rfl) fun w' hh => ⟨_, rfl, hh.below, (show _ from rfl)⟩
           ·
            rw [hc8, cond_false] at hY2
            refine T.skip_code ?_
            refine T.region ?_
            refine T.pure (.int .i64 (IntKind.i64.wrap (x3 + 1))) (by kernel_rfl) (fun _ => by kernel_rfl) ?_
            refine T.pure (.int .i64 (IntKind.i64.wrap (x3 + 1))) (by kernel_rfl) (fun _ => by kernel_rfl) ?_
            refine T.nil ?_
            cases hY2
            exact fun a w' hf hh => Exists.intro (IntKind.i64.wrap (x3 + 1)) (And.intro rfl (Exists.intro V13 (And.intro (View.le_trans hV11 hV13) (And.intro (((((((Fr.nil hf).pick hf 143 rfl).pick hf 142 rfl).pick hf 141 rfl).pick hf 20 rfl).pick hf 2 rfl).pick hf 1 rfl) (hh.sub List.Sublist.slnil)))))
         ·
          rw [hc7, cond_false] at hY2
          refine T.exit ?_
          cases hY2
          cases (hr4 _ rfl)
          exact fun a w' hf hh => And.intro rfl (Exists.intro V11 (And.intro hV11 (And.intro (Fr.nil hf) (hh.sub List.Sublist.slnil))))
       ·
        rintro a w' ⟨rfl, V12, hV12, hf, hh⟩
        try dsimp only at hF
        refine (?_ : T 160 w V12 [] [] _) a w' hf hh
        clear hf hh
        refine T.seq ?_
        refine T.region ?_
        refine T.pure (.bool true) (by kernel_rfl) (fun _ => by kernel_rfl) ?_
        refine T.nil ?_
        cases hF
        refine T.ret rfl ?_
        exact T.ret1 rfl (ResIs.tmp rfl) fun w' hh => ⟨_, rfl, hh.below, (show _ from rfl)⟩

end Go.Proofs.Ytoaopihihccfkaa
