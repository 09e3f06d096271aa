/- The Go functions of group WFindOn compute the pure functions of that group: written by walkgen.py. Condition of each: the pure function yields a result. -/
import Derived.Test.YtoaopihihccfkaaFindSL
import Derived.Test.YtoaopihihccfkaaFindFL
import Derived.Test.YtoaopihihccfkaaBuildL
import Derived.Test.YtoaopihihccfkaaEqsL
import Derived.Test.YtoaopihihccfkaaWFindOnF
import Derived.Test.YtoaopihihccfkaaEqL
namespace Go.Proofs.Ytoaopihihccfkaa
set_option linter.unusedVariables false

set_option maxRecDepth 100000 in
set_option maxHeartbeats 4000000 in
theorem annalkeep_FindOn_l (F : Nat) (p0 : DTree) (p1 : Int) (r : Bool) (hF : annalkeep_FindOn F p0 p1 = some r) (w : World) (A1 : Option Addr) (c1 : Nat) (hs1 : SlOk (vw w) eNode A1 c1 p0.nodes) :
    Calls Try.prog 8 #[.agg #[.int .i64 p0.root, .slice A1 p0.nodes.length c1], .int .i64 p1] w (Post (vSc eBool) r w) := by
 unfold annalkeep_FindOn at hF
 refine T.start (l := [.agg #[.int .i64 p0.root, .slice A1 p0.nodes.length c1], .int .i64 p1]) Try.func8 rfl rfl rfl ?_
 refine T.seq ?_
 refine T.region ?_
 refine T.step (W1.new 24 [.int .i64 p0.root, .slice A1 p0.nodes.length c1] (fun b => .pointer (some ⟨b, 0, none⟩)) (by kernel_rfl) (fun _ => by kernel_rfl) (fun b1 => ?_))
 refine T.pure (.bool false) (by kernel_rfl) (fun _ => by kernel_rfl) ?_
 refine T.nil ?_
 refine T.seq ?_
 refine T.seq ?_
 refine T.region ?_
 obtain ⟨r1, hb1, hF⟩ := Option.bind_eq_some_iff.1 hF
 refine T.step (W1.call (vAg eElem) r1 17 #[.int .i64 1, .string (ByteArray.mk #[97])] (by kernel_rfl) (fun _ => by kernel_rfl) (fun w' hh => annalkeep_at1_l 1 (ByteArray.mk #[97]) r1 hb1 w' ) ?_)
 intro u V1 hV1 hu
 obtain rfl := sureElem _ _ _ hu
 obtain ⟨r2, hb2, hF⟩ := Option.bind_eq_some_iff.1 hF
 refine T.step (W1.call (vAg eElem) r2 17 #[.int .i64 2, .string (ByteArray.mk #[98])] (by kernel_rfl) (fun _ => by kernel_rfl) (fun w' hh => annalkeep_at1_l 2 (ByteArray.mk #[98]) r2 hb2 w' ) ?_)
 intro u V2 hV2 hu
 obtain rfl := sureElem _ _ _ hu
 refine T.step (W1.new 39 [.int .i64 r1.key.pfs, .int .i64 r1.key.obj, .int .i64 r1.key.off, .int .i64 r1.made, .int .i64 r1.gone, .string r1.val, .int .i64 r2.key.pfs, .int .i64 r2.key.obj, .int .i64 r2.key.off, .int .i64 r2.made, .int .i64 r2.gone, .string r2.val] (fun b => .slice (some ⟨b, 0, none⟩) 2 2) (by kernel_rfl) (fun _ => by kernel_rfl) (fun b2 => ?_))
 obtain ⟨r3, hb3, hF⟩ := Option.bind_eq_some_iff.1 hF
 refine T.step (W1.call (vAg eTree) r3 16 #[.slice (some ⟨b2, 0, none⟩) 2 2] (by kernel_rfl) (fun _ => by kernel_rfl) (fun w' hh => annalkeep_of_l F [r1, r2] r3 hb3 w' (some ⟨b2, 0, none⟩) 2 (slok_lit (E := eElem) (f := DElem.cells) [r1, r2] (fun _ _ => rfl) (Nat.le_of_ble_eq_true (by rfl)) (fun j => hh.cellBox (i := 0) (by rfl) j))) ?_)
 intro u V3 hV3 hu
 obtain ⟨cs1, rfl, hr1⟩ := vagg_elim hu
 obtain ⟨A2, c2, rfl, hs2⟩ := hr1
 refine T.pure (.agg #[.int .i64 0, .int .i64 0, .int .i64 2]) (by kernel_rfl) (fun _ => by kernel_rfl) ?_
 refine T.pure (.agg #[.int .i64 0, .int .i64 0, .int .i64 2, .int .i64 0]) (by kernel_rfl) (fun _ => by kernel_rfl) ?_
 obtain ⟨r4, hb4, hF⟩ := Option.bind_eq_some_iff.1 hF
 refine T.step (W1.call (vT2 (vSc (eList eElem)) (vSc eInt)) r4 20 #[.agg #[.int .i64 r3.root, .slice A2 r3.nodes.length c2], .agg #[.int .i64 0, .int .i64 0, .int .i64 2, .int .i64 0], .int .i64 9] (by kernel_rfl) (fun _ => by kernel_rfl) (fun w' hh => find_From_l F r3 (DSpot.mk (DKey.mk 0 0 2) 0) 9 r4 hb4 w' A2 c2 (SlOk.mono (SlOk.mono hs2 (View.le_trans (made_le _ _) (View.le_refl _))) hh.view)) ?_)
 intro u V4 hV4 hu
 obtain ⟨u1, u2, rfl, hu1, hu2⟩ := vT2_elim hu
 obtain ⟨A3, c3, rfl, hs3⟩ := vlist_elim hu1
 obtain rfl := sureInt _ _ _ hu2
 refine T.pure (.tuple #[.slice A3 r4.1.length c3, .int .i64 r4.2]) (by kernel_rfl) (fun _ => by kernel_rfl) ?_
 refine T.pure (.slice A3 r4.1.length c3) (by kernel_rfl) (fun _ => by kernel_rfl) ?_
 refine T.pure (.int .i64 r4.2) (by kernel_rfl) (fun _ => by kernel_rfl) ?_
 refine T.pure (.slice A3 r4.1.length c3) (by kernel_rfl) (fun _ => by kernel_rfl) ?_
 refine T.pure (.int .i64 r4.2) (by kernel_rfl) (fun _ => by kernel_rfl) ?_
 refine T.nil ?_
 obtain ⟨z1, hX1, hF⟩ := Option.bind_eq_some_iff.1 hF
 refine T.cut (fun a w' => ∃ (V5 : View), View.le V4 V5 ∧ Fr 97 [(1, .int .i64 p1), (2, .pointer (some ⟨b1, 0, none⟩)), (32, .bool z1)] a ∧ Hp w V5 [box b1 24 [.int .i64 p0.root, .slice A1 p0.nodes.length c1]] w') ?_ ?_
 ·
  refine T.region ?_
  refine T.pure (.int .i64 r4.2) (by kernel_rfl) (fun _ => by kernel_rfl) ?_
  refine T.pure (.bool (r4.2 != 0)) (by kernel_rfl) (fun _ => by kernel_rfl) ?_
  refine T.pure (.bool (r4.2 != 0)) (by kernel_rfl) (fun _ => by kernel_rfl) ?_
  cases hg1 : (r4.2 != 0)
  ·
   skip
   rw [hg1, cond_false] at hX1
   refine T.pure (.slice A3 r4.1.length c3) (by kernel_rfl) (fun _ => by kernel_rfl) ?_
   obtain ⟨r5, hb5, hX1⟩ := Option.bind_eq_some_iff.1 hX1
   refine T.step (W1.call (vAg eElem) r5 17 #[.int .i64 2, .string (ByteArray.mk #[98])] (by kernel_rfl) (fun _ => by kernel_rfl) (fun w' hh => annalkeep_at1_l 2 (ByteArray.mk #[98]) r5 hb5 w' ) ?_)
   intro u V6 hV6 hu
   obtain rfl := sureElem _ _ _ hu
   refine T.step (W1.new 39 [.int .i64 r5.key.pfs, .int .i64 r5.key.obj, .int .i64 r5.key.off, .int .i64 r5.made, .int .i64 r5.gone, .string r5.val] (fun b => .slice (some ⟨b, 0, none⟩) 1 1) (by kernel_rfl) (fun _ => by kernel_rfl) (fun b3 => ?_))
   obtain ⟨r6, hb6, hX1⟩ := Option.bind_eq_some_iff.1 hX1
   refine T.step (W1.call (vSc eBool) r6 25 #[.slice A3 r4.1.length c3, .slice (some ⟨b3, 0, none⟩) 1 1] (by kernel_rfl) (fun _ => by kernel_rfl) (fun w' hh => slices_Equal_Elem_l F r4.1 [r5] r6 hb6 w' A3 c3 (SlOk.mono (SlOk.mono hs3 (View.le_trans (made_le _ _) hV6)) hh.view) (some ⟨b3, 0, none⟩) 1 (slok_lit (E := eElem) (f := DElem.cells) [r5] (fun _ _ => rfl) (Nat.le_of_ble_eq_true (by rfl)) (fun j => hh.cellBox (i := 0) (by rfl) j))) ?_)
   intro u V7 hV7 hu
   obtain rfl := sureBool _ _ _ hu
   refine T.pure (.bool (!r6)) (by kernel_rfl) (fun _ => by kernel_rfl) ?_
   refine T.pure (.bool (!r6)) (by kernel_rfl) (fun _ => by kernel_rfl) ?_
   refine T.nil ?_
   cases hX1
   exact fun a w' hf hh => Exists.intro V7 (And.intro (View.le_trans hV6 hV7) (And.intro ((((Fr.nil hf).pick hf 32 rfl).pick hf 2 rfl).pick hf 1 rfl) (hh.sub (.cons _ (.cons _ (.cons_cons _ List.Sublist.slnil))))))
  ·
   skip
   rw [hg1, cond_true] at hX1
   refine T.pass (by kernel_rfl) (by kernel_rfl) ?_
   refine T.pass (by kernel_rfl) (by kernel_rfl) ?_
   refine T.pass (by kernel_rfl) (by kernel_rfl) ?_
   refine T.pass (by kernel_rfl) (by kernel_rfl) ?_
   refine T.pass (by kernel_rfl) (by kernel_rfl) ?_
   refine T.pure (.bool true) (by kernel_rfl) (fun _ => by kernel_rfl) ?_
   refine T.nil ?_
   cases hX1
   exact fun a w' hf hh => Exists.intro V4 (And.intro (View.le_refl _) (And.intro ((((Fr.nil hf).pick hf 32 rfl).pick hf 2 rfl).pick hf 1 rfl) (hh.sub (.cons _ (.cons_cons _ List.Sublist.slnil)))))
 ·
  rintro a w' ⟨V5, hV5, hf, hh⟩
  refine (?_ : T 97 w V5 [box b1 24 [.int .i64 p0.root, .slice A1 p0.nodes.length c1]] [(1, .int .i64 p1), (2, .pointer (some ⟨b1, 0, none⟩)), (32, .bool z1)] _) a w' hf hh
  clear hf hh
  refine T.cond z1 (by kernel_rfl) (by kernel_rfl) (fun hc1 => ?_) (fun hc1 => ?_)
  ·
   rw [hc1, cond_true] at hF
   refine T.seq ?_
   refine T.region ?_
   refine T.pure (.bool false) (by kernel_rfl) (fun _ => by kernel_rfl) ?_
   refine T.nil ?_
   cases hF
   refine T.ret rfl ?_
   exact T.ret1 rfl (ResIs.tmp rfl) fun w' hh => ⟨_, rfl, hh.below, (show _ from rfl)⟩
  ·
   rw [hc1, cond_false] at hF
   refine T.skip_code ?_
   refine T.seq ?_
   refine T.region ?_
   refine T.look (.agg #[.int .i64 p0.root, .slice A1 p0.nodes.length c1]) (by kernel_rfl) (fun w' hh => exec_loadN (cs := [.int .i64 p0.root, .slice A1 p0.nodes.length c1]) rfl rfl (by kernel_rfl) (by kernel_rfl) (fun j u hj => (hh.box_at (i := 0) (cs := [.int .i64 p0.root, .slice A1 p0.nodes.length c1]) (by rfl) 0 j).trans (seg_at (n := 2) (by rfl) hj))) ?_
   obtain ⟨r7, hb7, hF⟩ := Option.bind_eq_some_iff.1 hF
   refine T.step (W1.call (vT2 (vSc (eList eElem)) (vSc eInt)) r7 13 #[.agg #[.int .i64 p0.root, .slice A1 p0.nodes.length c1]] (by kernel_rfl) (fun _ => by kernel_rfl) (fun w' hh => tree_All_l F p0 r7 hb7 w' A1 c1 (SlOk.mono (SlOk.mono hs1 (View.le_trans (View.le_trans (View.le_trans (View.le_trans hV1 hV2) hV3) hV4) hV5)) hh.view)) ?_)
   intro u V8 hV8 hu
   obtain ⟨u3, u4, rfl, hu3, hu4⟩ := vT2_elim hu
   obtain ⟨A4, c4, rfl, hs4⟩ := vlist_elim hu3
   obtain rfl := sureInt _ _ _ hu4
   refine T.pure (.tuple #[.slice A4 r7.1.length c4, .int .i64 r7.2]) (by kernel_rfl) (fun _ => by kernel_rfl) ?_
   refine T.pure (.slice A4 r7.1.length c4) (by kernel_rfl) (fun _ => by kernel_rfl) ?_
   refine T.pure (.int .i64 r7.2) (by kernel_rfl) (fun _ => by kernel_rfl) ?_
   refine T.pure (.slice A4 r7.1.length c4) (by kernel_rfl) (fun _ => by kernel_rfl) ?_
   refine T.pure (.int .i64 r7.2) (by kernel_rfl) (fun _ => by kernel_rfl) ?_
   refine T.nil ?_
   refine T.seq ?_
   refine T.region ?_
   refine T.pure (.int .i64 p1) (by kernel_rfl) (fun _ => by kernel_rfl) ?_
   obtain ⟨r8, hb8, hF⟩ := Option.bind_eq_some_iff.1 hF
   refine T.step (W1.call (vSc eInt) r8 29 #[.int .i64 p1, .int .i64 20] (by kernel_rfl) (fun _ => by kernel_rfl) (fun w' hh => annalkeep_Within_l p1 20 r8 hb8 w' ) ?_)
   intro u V9 hV9 hu
   obtain rfl := sureInt _ _ _ hu
   refine T.pure (.int .i64 (IntKind.i64.wrap (r8 + 1))) (by kernel_rfl) (fun _ => by kernel_rfl) ?_
   refine T.pure (.int .i64 (IntKind.i64.wrap (r8 + 1))) (by kernel_rfl) (fun _ => by kernel_rfl) ?_
   refine T.nil ?_
   refine T.seq ?_
   refine T.region ?_
   refine T.pure (.slice none 0 0) (by kernel_rfl) (fun _ => by kernel_rfl) ?_
   refine T.nil ?_
   refine T.seq ?_
   refine T.region ?_
   refine T.pure (.agg #[.int .i64 0, .int .i64 0, .int .i64 0, .int .i64 0]) (by kernel_rfl) (fun _ => by kernel_rfl) ?_
   refine T.step (W1.new 36 [.int .i64 0, .int .i64 0, .int .i64 0, .int .i64 0] (fun b => .pointer (some ⟨b, 0, none⟩)) (by kernel_rfl) (fun _ => by kernel_rfl) (fun b4 => ?_))
   refine T.step (W1.store 0 [.int .i64 0, .int .i64 0, .int .i64 0, .int .i64 0] [box b4 36 [.int .i64 0, .int .i64 0, .int .i64 0, .int .i64 0], box b1 24 [.int .i64 p0.root, .slice A1 p0.nodes.length c1]] (by rfl) rfl (by kernel_rfl) (fun w' hw => exec_store (vs := [.int .i64 0, .int .i64 0, .int .i64 0, .int .i64 0]) rfl rfl rfl rfl (by kernel_rfl) (one_of rfl) (by simp) rfl hw) ?_)
   refine T.nil ?_
   refine T.seq ?_
   refine T.seq ?_
   refine T.region ?_
   refine T.pure (.slice A4 r7.1.length c4) (by kernel_rfl) (fun _ => by kernel_rfl) ?_
   refine T.pure (.int .i64 (r7.1.length : Int)) (by kernel_rfl) (fun _ => by kernel_rfl) ?_
   refine T.pure (.int .i64 (IntKind.i64.wrap ((r7.1.length : Int) + 1))) (by kernel_rfl) (fun _ => by kernel_rfl) ?_
   refine T.pure (.int .i64 0) (by kernel_rfl) (fun _ => by kernel_rfl) ?_
   refine T.nil ?_
   refine T.rownil 39 eElem ?_
   obtain ⟨q1, hz1, hF⟩ := Option.bind_eq_some_iff.1 hF
   refine T.mid (fun a w' => ∃ (z2 : List DElem), q1 = Sum.inl z2 ∧ ∃ (A6 : Option Addr) (c6 : Nat) (V11 : View), View.le V9 V11 ∧ Fr 97 [(7, .slice A4 r7.1.length c4), (9, .slice A6 z2.length c6)] a ∧ Hp w V11 [row 39 eElem A6 c6 z2] w') ?_ ?_
   ·
    refine T.block ?_
    refine T.iter (fun s1 a w' => ∃ (x1 : List DElem) (x2 : Int) (x3 : Int) (x4 : Int) (x5 : Int) (x6 : Int), s1 = (x1, x2, x3, x4, x5, x6) ∧ ∃ (A5 : Option Addr) (c5 : Nat) (V10 : View), View.le V9 V10 ∧ Fr 97 [(1, .int .i64 (IntKind.i64.wrap (r8 + 1))), (2, .pointer (some ⟨b1, 0, none⟩)), (7, .slice A4 r7.1.length c4), (8, .int .i64 r7.2), (9, .slice A5 x1.length c5), (10, .pointer (some ⟨b4, 0, none⟩)), (44, .int .i64 (IntKind.i64.wrap ((r7.1.length : Int) + 1))), (45, .int .i64 x6)] a ∧ Hp w V10 [row 39 eElem A5 c5 x1, box b4 36 [.int .i64 x2, .int .i64 x3, .int .i64 x4, .int .i64 x5], box b1 24 [.int .i64 p0.root, .slice A1 p0.nodes.length c1]] w') hz1 ?_ ?_
    ·
     exact fun a w' hf hh => Exists.intro [] (Exists.intro 0 (Exists.intro 0 (Exists.intro 0 (Exists.intro 0 (Exists.intro 0 (And.intro rfl (Exists.intro none (Exists.intro 0 (Exists.intro V9 (And.intro (View.le_refl _) (And.intro (((((((((Fr.nil hf).pick hf 45 rfl).pick hf 44 rfl).pick hf 10 rfl).pick hf 9 rfl).pick hf 8 rfl).pick hf 7 rfl).pick hf 2 rfl).pick hf 1 rfl) (hh.sub (.cons_cons _ (.cons_cons _ (.cons_cons _ List.Sublist.slnil)))))))))))))))
    ·
     rintro s1 y1 hY1 hr2 a w' ⟨x1, x2, x3, x4, x5, x6, rfl, A5, c5, V10, hV10, hf, hh⟩
     refine (?_ : T 97 w V10 [row 39 eElem A5 c5 x1, box b4 36 [.int .i64 x2, .int .i64 x3, .int .i64 x4, .int .i64 x5], box b1 24 [.int .i64 p0.root, .slice A1 p0.nodes.length c1]] [(1, .int .i64 (IntKind.i64.wrap (r8 + 1))), (2, .pointer (some ⟨b1, 0, none⟩)), (7, .slice A4 r7.1.length c4), (8, .int .i64 r7.2), (9, .slice A5 x1.length c5), (10, .pointer (some ⟨b4, 0, none⟩)), (44, .int .i64 (IntKind.i64.wrap ((r7.1.length : Int) + 1))), (45, .int .i64 x6)] _) a w' hf hh
     clear hf hh
     try dsimp only at hY1
     refine T.seq ?_
     refine T.region ?_
     refine T.pure (.bool (decide (x6 < (IntKind.i64.wrap ((r7.1.length : Int) + 1))))) (by kernel_rfl) (fun _ => by kernel_rfl) ?_
     refine T.nil ?_
     refine T.seq ?_
     refine T.cond (decide (x6 < (IntKind.i64.wrap ((r7.1.length : Int) + 1)))) (by kernel_rfl) (by kernel_rfl) (fun hc2 => ?_) (fun hc2 => ?_)
     ·
      rw [hc2, cond_true] at hY1
      refine T.skip_code ?_
      refine T.seq ?_
      refine T.block ?_
      refine T.seq ?_
      refine T.region ?_
      refine T.look (.agg #[.int .i64 p0.root, .slice A1 p0.nodes.length c1]) (by kernel_rfl) (fun w' hh => exec_loadN (cs := [.int .i64 p0.root, .slice A1 p0.nodes.length c1]) rfl rfl (by kernel_rfl) (by kernel_rfl) (fun j u hj => (hh.box_at (i := 2) (cs := [.int .i64 p0.root, .slice A1 p0.nodes.length c1]) (by rfl) 0 j).trans (seg_at (n := 2) (by rfl) hj))) ?_
      refine T.look (.agg #[.int .i64 x2, .int .i64 x3, .int .i64 x4, .int .i64 x5]) (by kernel_rfl) (fun w' hh => exec_loadN (cs := [.int .i64 x2, .int .i64 x3, .int .i64 x4, .int .i64 x5]) rfl rfl (by kernel_rfl) (by kernel_rfl) (fun j u hj => (hh.box_at (i := 1) (cs := [.int .i64 x2, .int .i64 x3, .int .i64 x4, .int .i64 x5]) (by rfl) 0 j).trans (seg_at (n := 4) (by rfl) hj))) ?_
      refine T.pure (.int .i64 (IntKind.i64.wrap (r8 + 1))) (by kernel_rfl) (fun _ => by kernel_rfl) ?_
      obtain ⟨r10, hb9, hY1⟩ := Option.bind_eq_some_iff.1 hY1
      refine T.step (W1.call (vT2 (vSc (eList eElem)) (vSc eInt)) r10 20 #[.agg #[.int .i64 p0.root, .slice A1 p0.nodes.length c1], .agg #[.int .i64 x2, .int .i64 x3, .int .i64 x4, .int .i64 x5], .int .i64 (IntKind.i64.wrap (r8 + 1))] (by kernel_rfl) (fun _ => by kernel_rfl) (fun w' hh => find_From_l F p0 (DSpot.mk (DKey.mk x2 x3 x4) x5) (IntKind.i64.wrap (r8 + 1)) r10 hb9 w' A1 c1 (SlOk.mono (SlOk.mono hs1 (View.le_trans (View.le_trans (View.le_trans (View.le_trans (View.le_trans (View.le_trans (View.le_trans hV1 hV2) hV3) hV4) hV5) hV8) hV9) hV10)) hh.view)) ?_)
      intro u V12 hV12 hu
      obtain ⟨u5, u6, rfl, hu5, hu6⟩ := vT2_elim hu
      obtain ⟨A7, c7, rfl, hs5⟩ := vlist_elim hu5
      obtain rfl := sureInt _ _ _ hu6
      refine T.pure (.tuple #[.slice A7 r10.1.length c7, .int .i64 r10.2]) (by kernel_rfl) (fun _ => by kernel_rfl) ?_
      refine T.pure (.slice A7 r10.1.length c7) (by kernel_rfl) (fun _ => by kernel_rfl) ?_
      refine T.pure (.int .i64 r10.2) (by kernel_rfl) (fun _ => by kernel_rfl) ?_
      refine T.pure (.slice A7 r10.1.length c7) (by kernel_rfl) (fun _ => by kernel_rfl) ?_
      refine T.pure (.int .i64 r10.2) (by kernel_rfl) (fun _ => by kernel_rfl) ?_
      refine T.nil ?_
      refine T.seq ?_
      refine T.seq ?_
      refine T.region ?_
      refine T.pure (.int .i64 r10.2) (by kernel_rfl) (fun _ => by kernel_rfl) ?_
      refine T.pure (.int .i64 r7.2) (by kernel_rfl) (fun _ => by kernel_rfl) ?_
      refine T.pure (.bool (r10.2 != r7.2)) (by kernel_rfl) (fun _ => by kernel_rfl) ?_
      refine T.nil ?_
      refine T.cond (r10.2 != r7.2) (by kernel_rfl) (by kernel_rfl) (fun hc3 => ?_) (fun hc3 => ?_)
      ·
       rw [hc3, cond_true] at hY1
       refine T.seq ?_
       refine T.region ?_
       refine T.pure (.bool false) (by kernel_rfl) (fun _ => by kernel_rfl) ?_
       refine T.nil ?_
       cases hY1
       cases (hr2 _ rfl)
       try dsimp only at hF
       cases hF
       refine T.ret rfl ?_
       exact T.ret1 rfl (ResIs.tmp rfl) fun w' hh => ⟨_, rfl, hh.below, (show _ from rfl)⟩
      ·
       rw [hc3, cond_false] at hY1
       refine T.skip_code ?_
       refine T.seq ?_
       refine T.region ?_
       refine T.pure (.slice A5 x1.length c5) (by kernel_rfl) (fun _ => by kernel_rfl) ?_
       refine T.pure (.slice A7 r10.1.length c7) (by kernel_rfl) (fun _ => by kernel_rfl) ?_
       obtain ⟨y2, hb10, hY1⟩ := Option.bind_eq_some_iff.1 hY1
       obtain ⟨hb10_r, hb10_m, rfl⟩ := grow_some hb10
       obtain ⟨ti, hti, hz1, hz2, hz3⟩ := info_parts (P := Try.prog) (e := 39) (z := .agg #[.int .i64 0, .int .i64 0, .int .i64 0, .int .i64 0, .int .i64 0, .string (ByteArray.mk #[])]) (size := 6) (bytes := 56) (by kernel_rfl)
       refine T.step (W1.append (E := eElem) (l := x1) (m := r10.1) 0 _ _ 56 ti _ (by rfl) (by kernel_rfl) rfl (by kernel_rfl) hti hz1 hz2 hz3 rfl (by decide) rfl rfl (fun w' hh => (SlOk.srcF (SlOk.mono (SlOk.mono hs5 (View.le_trans (made_le _ _) (View.le_refl _))) hh.view) (fun _ _ _ _ h => h))) hb10_r hb10_m (fun A8 c8 => ?_))
       refine T.pure (.slice A8 ((x1 ++ r10.1).length) c8) (by kernel_rfl) (fun _ => by kernel_rfl) ?_
       refine T.nil ?_
       refine T.seq ?_
       refine T.seq ?_
       refine T.region ?_
       refine T.pure (.slice A7 r10.1.length c7) (by kernel_rfl) (fun _ => by kernel_rfl) ?_
       refine T.pure (.int .i64 (r10.1.length : Int)) (by kernel_rfl) (fun _ => by kernel_rfl) ?_
       refine T.pure (.int .i64 (IntKind.i64.wrap (r8 + 1))) (by kernel_rfl) (fun _ => by kernel_rfl) ?_
       refine T.pure (.bool (decide ((r10.1.length : Int) < (IntKind.i64.wrap (r8 + 1))))) (by kernel_rfl) (fun _ => by kernel_rfl) ?_
       refine T.nil ?_
       refine T.cond (decide ((r10.1.length : Int) < (IntKind.i64.wrap (r8 + 1)))) (by kernel_rfl) (by kernel_rfl) (fun hc4 => ?_) (fun hc4 => ?_)
       ·
        rw [hc4, cond_true] at hY1
        refine T.exit ?_
        cases hY1
        cases (hr2 _ rfl)
        exact fun a w' hf hh => Exists.intro (x1 ++ r10.1) (And.intro rfl (Exists.intro A8 (Exists.intro c8 (Exists.intro V12 (And.intro (View.le_trans hV10 hV12) (And.intro (((Fr.nil hf).pick hf 9 rfl).pick hf 7 rfl) (hh.sub (.cons_cons _ (.cons _ (.cons _ List.Sublist.slnil))))))))))
       ·
        rw [hc4, cond_false] at hY1
        refine T.skip_code ?_
        refine T.seq ?_
        refine T.region ?_
        refine T.pure (.slice A7 r10.1.length c7) (by kernel_rfl) (fun _ => by kernel_rfl) ?_
        refine T.pure (.slice A7 r10.1.length c7) (by kernel_rfl) (fun _ => by kernel_rfl) ?_
        refine T.pure (.int .i64 (r10.1.length : Int)) (by kernel_rfl) (fun _ => by kernel_rfl) ?_
        refine T.pure (.int .i64 (IntKind.i64.wrap ((r10.1.length : Int) - 1))) (by kernel_rfl) (fun _ => by kernel_rfl) ?_
        obtain ⟨e1, hb11, hY1⟩ := Option.bind_eq_some_iff.1 hY1
        obtain ⟨hi1, hi2, hi3⟩ := idx_some hb11
        refine T.look (.pointer (some ((sadr A7).add (((IntKind.i64.wrap ((r10.1.length : Int) - 1)).toNat) * 6)))) (by kernel_rfl) (fun w' hh => exec_indexAddr (e := 39) (s := 6) rfl rfl rfl (by kernel_rfl) (by kernel_rfl) hi1 hi2 ((SlOk.mono hs5 (View.le_trans (made_le _ _) (View.le_refl _))).some_ hi3 (by decide))) ?_
        refine T.look (.agg #[.int .i64 e1.key.pfs, .int .i64 e1.key.obj, .int .i64 e1.key.off, .int .i64 e1.made, .int .i64 e1.gone, .string e1.val]) (by kernel_rfl) (fun w' hh => exec_loadN (cs := [.int .i64 e1.key.pfs, .int .i64 e1.key.obj, .int .i64 e1.key.off, .int .i64 e1.made, .int .i64 e1.gone, .string e1.val]) rfl rfl (by kernel_rfl) (by kernel_rfl) (fun j u hj => (hh.cell_view (SlOk.cellF (E := eElem) (SlOk.mono hs5 (View.le_trans (made_le _ _) (View.le_refl _))) hi3 j (fun _ _ _ h => h) hj)))) ?_
        obtain ⟨r11, hb12, hY1⟩ := Option.bind_eq_some_iff.1 hY1
        refine T.step (W1.call (vAg eSpot) r11 15 #[.agg #[.int .i64 e1.key.pfs, .int .i64 e1.key.obj, .int .i64 e1.key.off, .int .i64 e1.made, .int .i64 e1.gone, .string e1.val]] (by kernel_rfl) (fun _ => by kernel_rfl) (fun w' hh => elem_Spot_l e1 r11 hb12 w' ) ?_)
        intro u V13 hV13 hu
        obtain rfl := sureSpot _ _ _ hu
        refine T.step (W1.store 1 [.int .i64 r11.key.pfs, .int .i64 r11.key.obj, .int .i64 r11.key.off, .int .i64 r11.made] [row 39 eElem A8 c8 (x1 ++ r10.1), box b4 36 [.int .i64 r11.key.pfs, .int .i64 r11.key.obj, .int .i64 r11.key.off, .int .i64 r11.made], box b1 24 [.int .i64 p0.root, .slice A1 p0.nodes.length c1]] (by rfl) rfl (by kernel_rfl) (fun w' hw => exec_store (vs := [.int .i64 r11.key.pfs, .int .i64 r11.key.obj, .int .i64 r11.key.off, .int .i64 r11.made]) rfl rfl rfl rfl (by kernel_rfl) (one_of rfl) (by simp) rfl hw) ?_)
        refine T.nil ?_
        refine T.seq ?_
        refine T.region ?_
        refine T.look (.agg #[.int .i64 p0.root, .slice A1 p0.nodes.length c1]) (by kernel_rfl) (fun w' hh => exec_loadN (cs := [.int .i64 p0.root, .slice A1 p0.nodes.length c1]) rfl rfl (by kernel_rfl) (by kernel_rfl) (fun j u hj => (hh.box_at (i := 2) (cs := [.int .i64 p0.root, .slice A1 p0.nodes.length c1]) (by rfl) 0 j).trans (seg_at (n := 2) (by rfl) hj))) ?_
        refine T.look (.agg #[.int .i64 r11.key.pfs, .int .i64 r11.key.obj, .int .i64 r11.key.off, .int .i64 r11.made]) (by kernel_rfl) (fun w' hh => exec_loadN (cs := [.int .i64 r11.key.pfs, .int .i64 r11.key.obj, .int .i64 r11.key.off, .int .i64 r11.made]) rfl rfl (by kernel_rfl) (by kernel_rfl) (fun j u hj => (hh.box_at (i := 1) (cs := [.int .i64 r11.key.pfs, .int .i64 r11.key.obj, .int .i64 r11.key.off, .int .i64 r11.made]) (by rfl) 0 j).trans (seg_at (n := 4) (by rfl) hj))) ?_
        obtain ⟨r12, hb13, hY1⟩ := Option.bind_eq_some_iff.1 hY1
        refine T.step (W1.call (vT2 (vAg eElem) (vSc eInt)) r12 21 #[.agg #[.int .i64 p0.root, .slice A1 p0.nodes.length c1], .agg #[.int .i64 r11.key.pfs, .int .i64 r11.key.obj, .int .i64 r11.key.off, .int .i64 r11.made]] (by kernel_rfl) (fun _ => by kernel_rfl) (fun w' hh => find_Spot_l F p0 r11 r12 hb13 w' A1 c1 (SlOk.mono (SlOk.mono hs1 (View.le_trans (View.le_trans (View.le_trans (View.le_trans (View.le_trans (View.le_trans (View.le_trans (View.le_trans (View.le_trans hV1 hV2) hV3) hV4) hV5) hV8) hV9) hV10) hV12) hV13)) hh.view)) ?_)
        intro u V14 hV14 hu
        obtain rfl := (Sure.t2 sureElem sureInt) _ _ _ hu
        refine T.pure (.tuple #[.agg #[.int .i64 r12.1.key.pfs, .int .i64 r12.1.key.obj, .int .i64 r12.1.key.off, .int .i64 r12.1.made, .int .i64 r12.1.gone, .string r12.1.val], .int .i64 r12.2]) (by kernel_rfl) (fun _ => by kernel_rfl) ?_
        refine T.pure (.agg #[.int .i64 r12.1.key.pfs, .int .i64 r12.1.key.obj, .int .i64 r12.1.key.off, .int .i64 r12.1.made, .int .i64 r12.1.gone, .string r12.1.val]) (by kernel_rfl) (fun _ => by kernel_rfl) ?_
        refine T.pure (.int .i64 r12.2) (by kernel_rfl) (fun _ => by kernel_rfl) ?_
        refine T.step (W1.new 39 [.int .i64 0, .int .i64 0, .int .i64 0, .int .i64 0, .int .i64 0, .string (ByteArray.mk #[])] (fun b => .pointer (some ⟨b, 0, none⟩)) (by kernel_rfl) (fun _ => by kernel_rfl) (fun b5 => ?_))
        refine T.step (W1.store 0 [.int .i64 r12.1.key.pfs, .int .i64 r12.1.key.obj, .int .i64 r12.1.key.off, .int .i64 r12.1.made, .int .i64 r12.1.gone, .string r12.1.val] [box b5 39 [.int .i64 r12.1.key.pfs, .int .i64 r12.1.key.obj, .int .i64 r12.1.key.off, .int .i64 r12.1.made, .int .i64 r12.1.gone, .string r12.1.val], row 39 eElem A8 c8 (x1 ++ r10.1), box b4 36 [.int .i64 r11.key.pfs, .int .i64 r11.key.obj, .int .i64 r11.key.off, .int .i64 r11.made], box b1 24 [.int .i64 p0.root, .slice A1 p0.nodes.length c1]] (by rfl) rfl (by kernel_rfl) (fun w' hw => exec_store (vs := [.int .i64 r12.1.key.pfs, .int .i64 r12.1.key.obj, .int .i64 r12.1.key.off, .int .i64 r12.1.made, .int .i64 r12.1.gone, .string r12.1.val]) rfl rfl rfl rfl (by kernel_rfl) (one_of rfl) (by simp) rfl hw) ?_)
        refine T.pure (.int .i64 r12.2) (by kernel_rfl) (fun _ => by kernel_rfl) ?_
        refine T.nil ?_
        refine T.seq ?_
        obtain ⟨z3, hX2, hY1⟩ := Option.bind_eq_some_iff.1 hY1
        refine T.cut (fun a w' => Fr 97 [(1, .int .i64 (IntKind.i64.wrap (r8 + 1))), (2, .pointer (some ⟨b1, 0, none⟩)), (7, .slice A4 r7.1.length c4), (8, .int .i64 r7.2), (9, .slice A8 ((x1 ++ r10.1).length) c8), (10, .pointer (some ⟨b4, 0, none⟩)), (44, .int .i64 (IntKind.i64.wrap ((r7.1.length : Int) + 1))), (45, .int .i64 x6), (88, .bool z3)] a ∧ Hp w V14 [row 39 eElem A8 c8 (x1 ++ r10.1), box b4 36 [.int .i64 r11.key.pfs, .int .i64 r11.key.obj, .int .i64 r11.key.off, .int .i64 r11.made], box b1 24 [.int .i64 p0.root, .slice A1 p0.nodes.length c1]] w') ?_ ?_
        ·
         refine T.quiet (by kernel_rfl) (by kernel_rfl) ?_
         refine TQ.pure (.int .i64 r12.2) (by kernel_rfl) (fun _ => by kernel_rfl) ?_
         refine TQ.pure (.bool (r12.2 != 0)) (by kernel_rfl) (fun _ => by kernel_rfl) ?_
         refine TQ.pure (.bool (r12.2 != 0)) (by kernel_rfl) (fun _ => by kernel_rfl) ?_
         cases hg2 : (r12.2 != 0)
         ·
          skip
          rw [hg2, cond_false] at hX2
          refine TQ.look (.agg #[.int .i64 r12.1.key.pfs, .int .i64 r12.1.key.obj, .int .i64 r12.1.key.off, .int .i64 r12.1.made, .int .i64 r12.1.gone, .string r12.1.val]) (by kernel_rfl) (fun w' hh => exec_loadN (cs := [.int .i64 r12.1.key.pfs, .int .i64 r12.1.key.obj, .int .i64 r12.1.key.off, .int .i64 r12.1.made, .int .i64 r12.1.gone, .string r12.1.val]) rfl rfl (by kernel_rfl) (by kernel_rfl) (fun j u hj => (hh.box_at (i := 0) (cs := [.int .i64 r12.1.key.pfs, .int .i64 r12.1.key.obj, .int .i64 r12.1.key.off, .int .i64 r12.1.made, .int .i64 r12.1.gone, .string r12.1.val]) (by rfl) 0 j).trans (seg_at (n := 6) (by rfl) hj))) ?_
          refine TQ.pure (.slice A7 r10.1.length c7) (by kernel_rfl) (fun _ => by kernel_rfl) ?_
          refine TQ.pure (.slice A7 r10.1.length c7) (by kernel_rfl) (fun _ => by kernel_rfl) ?_
          refine TQ.pure (.int .i64 (r10.1.length : Int)) (by kernel_rfl) (fun _ => by kernel_rfl) ?_
          refine TQ.pure (.int .i64 (IntKind.i64.wrap ((r10.1.length : Int) - 1))) (by kernel_rfl) (fun _ => by kernel_rfl) ?_
          obtain ⟨e2, hb14, hX2⟩ := Option.bind_eq_some_iff.1 hX2
          obtain ⟨hi4, hi5, hi6⟩ := idx_some hb14
          refine TQ.look (.pointer (some ((sadr A7).add (((IntKind.i64.wrap ((r10.1.length : Int) - 1)).toNat) * 6)))) (by kernel_rfl) (fun w' hh => exec_indexAddr (e := 39) (s := 6) rfl rfl rfl (by kernel_rfl) (by kernel_rfl) hi4 hi5 ((SlOk.mono hs5 (View.le_trans (made_le _ _) (View.le_trans hV13 hV14))).some_ hi6 (by decide))) ?_
          refine TQ.look (.agg #[.int .i64 e2.key.pfs, .int .i64 e2.key.obj, .int .i64 e2.key.off, .int .i64 e2.made, .int .i64 e2.gone, .string e2.val]) (by kernel_rfl) (fun w' hh => exec_loadN (cs := [.int .i64 e2.key.pfs, .int .i64 e2.key.obj, .int .i64 e2.key.off, .int .i64 e2.made, .int .i64 e2.gone, .string e2.val]) rfl rfl (by kernel_rfl) (by kernel_rfl) (fun j u hj => (hh.cell_view (SlOk.cellF (E := eElem) (SlOk.mono hs5 (View.le_trans (made_le _ _) (View.le_trans hV13 hV14))) hi6 j (fun _ _ _ h => h) hj)))) ?_
          refine TQ.look (.bool (!(r12.1 == e2))) (by kernel_rfl) (fun w' hh => exec_neq_DElem r12.1 e2 w' rfl rfl rfl) ?_
          refine TQ.pure (.bool (!(r12.1 == e2))) (by kernel_rfl) (fun _ => by kernel_rfl) ?_
          refine TQ.nil ?_
          cases hX2
          exact fun a w' hf hh => And.intro ((((((((((Fr.nil hf).pick hf 88 rfl).pick hf 45 rfl).pick hf 44 rfl).pick hf 10 rfl).pick hf 9 rfl).pick hf 8 rfl).pick hf 7 rfl).pick hf 2 rfl).pick hf 1 rfl) (hh.sub (.cons _ (.cons_cons _ (.cons_cons _ (.cons_cons _ List.Sublist.slnil)))))
         ·
          skip
          rw [hg2, cond_true] at hX2
          refine TQ.pass (by kernel_rfl) (by kernel_rfl) ?_
          refine TQ.pass (by kernel_rfl) (by kernel_rfl) ?_
          refine TQ.pass (by kernel_rfl) (by kernel_rfl) ?_
          refine TQ.pass (by kernel_rfl) (by kernel_rfl) ?_
          refine TQ.pass (by kernel_rfl) (by kernel_rfl) ?_
          refine TQ.pass (by kernel_rfl) (by kernel_rfl) ?_
          refine TQ.pass (by kernel_rfl) (by kernel_rfl) ?_
          refine TQ.pass (by kernel_rfl) (by kernel_rfl) ?_
          refine TQ.pure (.bool true) (by kernel_rfl) (fun _ => by kernel_rfl) ?_
          refine TQ.nil ?_
          cases hX2
          exact fun a w' hf hh => And.intro ((((((((((Fr.nil hf).pick hf 88 rfl).pick hf 45 rfl).pick hf 44 rfl).pick hf 10 rfl).pick hf 9 rfl).pick hf 8 rfl).pick hf 7 rfl).pick hf 2 rfl).pick hf 1 rfl) (hh.sub (.cons _ (.cons_cons _ (.cons_cons _ (.cons_cons _ List.Sublist.slnil)))))
        ·
         rintro a w' ⟨hf, hh⟩
         refine (?_ : T 97 w V14 [row 39 eElem A8 c8 (x1 ++ r10.1), box b4 36 [.int .i64 r11.key.pfs, .int .i64 r11.key.obj, .int .i64 r11.key.off, .int .i64 r11.made], box b1 24 [.int .i64 p0.root, .slice A1 p0.nodes.length c1]] [(1, .int .i64 (IntKind.i64.wrap (r8 + 1))), (2, .pointer (some ⟨b1, 0, none⟩)), (7, .slice A4 r7.1.length c4), (8, .int .i64 r7.2), (9, .slice A8 ((x1 ++ r10.1).length) c8), (10, .pointer (some ⟨b4, 0, none⟩)), (44, .int .i64 (IntKind.i64.wrap ((r7.1.length : Int) + 1))), (45, .int .i64 x6), (88, .bool z3)] _) a w' hf hh
         clear hf hh
         refine T.cond z3 (by kernel_rfl) (by kernel_rfl) (fun hc5 => ?_) (fun hc5 => ?_)
         ·
          rw [hc5, cond_true] at hY1
          refine T.seq ?_
          refine T.region ?_
          refine T.pure (.bool false) (by kernel_rfl) (fun _ => by kernel_rfl) ?_
          refine T.nil ?_
          cases hY1
          cases (hr2 _ rfl)
          try dsimp only at hF
          cases hF
          refine T.ret rfl ?_
          exact T.ret1 rfl (ResIs.tmp rfl) fun w' hh => ⟨_, rfl, hh.below, (show _ from rfl)⟩
         ·
          rw [hc5, cond_false] at hY1
          refine T.skip_code ?_
          refine T.region ?_
          refine T.pure (.pointer (some ⟨b4, 3, none⟩)) (by kernel_rfl) (fun _ => by kernel_rfl) ?_
          refine T.look (.int .i64 r11.made) (by kernel_rfl) (fun w' hh => exec_load1 rfl rfl (by kernel_rfl) (hh.cellBox (i := 1) (by rfl) 3)) ?_
          refine T.pure (.int .i64 (IntKind.i64.wrap (r11.made + 1))) (by kernel_rfl) (fun _ => by kernel_rfl) ?_
          refine T.pure (.pointer (some ⟨b4, 3, none⟩)) (by kernel_rfl) (fun _ => by kernel_rfl) ?_
          refine T.step (W1.store 1 [.int .i64 r11.key.pfs, .int .i64 r11.key.obj, .int .i64 r11.key.off, .int .i64 (IntKind.i64.wrap (r11.made + 1))] [row 39 eElem A8 c8 (x1 ++ r10.1), box b4 36 [.int .i64 r11.key.pfs, .int .i64 r11.key.obj, .int .i64 r11.key.off, .int .i64 (IntKind.i64.wrap (r11.made + 1))], box b1 24 [.int .i64 p0.root, .slice A1 p0.nodes.length c1]] (by rfl) rfl (by kernel_rfl) (fun w' hw => exec_store (vs := [.int .i64 (IntKind.i64.wrap (r11.made + 1))]) rfl rfl rfl rfl (by kernel_rfl) (one_of rfl) (by simp) rfl hw) ?_)
          refine T.nil ?_
          refine T.region ?_
          refine T.pure (.int .i64 (IntKind.i64.wrap (x6 + 1))) (by kernel_rfl) (fun _ => by kernel_rfl) ?_
          refine T.pure (.int .i64 (IntKind.i64.wrap (x6 + 1))) (by kernel_rfl) (fun _ => by kernel_rfl) ?_
          refine T.nil ?_
          cases hY1
          exact fun a w' hf hh => Exists.intro ((x1 ++ r10.1), r11.key.pfs, r11.key.obj, r11.key.off, IntKind.i64.wrap (r11.made + 1), IntKind.i64.wrap (x6 + 1)) (And.intro rfl (Exists.intro (x1 ++ r10.1) (Exists.intro r11.key.pfs (Exists.intro r11.key.obj (Exists.intro r11.key.off (Exists.intro (IntKind.i64.wrap (r11.made + 1)) (Exists.intro (IntKind.i64.wrap (x6 + 1)) (And.intro rfl (Exists.intro A8 (Exists.intro c8 (Exists.intro V14 (And.intro (View.le_trans (View.le_trans (View.le_trans hV10 hV12) hV13) hV14) (And.intro (((((((((Fr.nil hf).pick hf 45 rfl).pick hf 44 rfl).pick hf 10 rfl).pick hf 9 rfl).pick hf 8 rfl).pick hf 7 rfl).pick hf 2 rfl).pick hf 1 rfl) (hh.sub (.cons_cons _ (.cons_cons _ (.cons_cons _ List.Sublist.slnil)))))))))))))))))
     ·
      rw [hc2, cond_false] at hY1
      refine T.exit ?_
      cases hY1
      cases (hr2 _ rfl)
      exact fun a w' hf hh => Exists.intro x1 (And.intro rfl (Exists.intro A5 (Exists.intro c5 (Exists.intro V10 (And.intro hV10 (And.intro (((Fr.nil hf).pick hf 9 rfl).pick hf 7 rfl) (hh.sub (.cons_cons _ (.cons _ (.cons _ List.Sublist.slnil))))))))))
   ·
    rintro a w' ⟨z2, rfl, A6, c6, V11, hV11, hf, hh⟩
    try dsimp only at hF
    refine (?_ : T 97 w V11 [row 39 eElem A6 c6 z2] [(7, .slice A4 r7.1.length c4), (9, .slice A6 z2.length c6)] _) a w' hf hh
    clear hf hh
    refine T.seq ?_
    refine T.region ?_
    refine T.pure (.slice A6 z2.length c6) (by kernel_rfl) (fun _ => by kernel_rfl) ?_
    refine T.pure (.slice A4 r7.1.length c4) (by kernel_rfl) (fun _ => by kernel_rfl) ?_
    obtain ⟨r13, hb15, hF⟩ := Option.bind_eq_some_iff.1 hF
    refine T.step (W1.call (vSc eBool) r13 25 #[.slice A6 z2.length c6, .slice A4 r7.1.length c4] (by kernel_rfl) (fun _ => by kernel_rfl) (fun w' hh => slices_Equal_Elem_l F z2 r7.1 r13 hb15 w' A6 c6 (hh.row_slOk (i := 0) (by rfl)) A4 c4 (SlOk.mono (SlOk.mono hs4 (View.le_trans (made_le _ _) (View.le_trans hV9 hV11))) hh.view)) ?_)
    intro u V15 hV15 hu
    obtain rfl := sureBool _ _ _ hu
    refine T.pure (.bool r13) (by kernel_rfl) (fun _ => by kernel_rfl) ?_
    refine T.nil ?_
    cases hF
    refine T.ret rfl ?_
    exact T.ret1 rfl (ResIs.tmp rfl) fun w' hh => ⟨_, rfl, hh.below, (show _ from rfl)⟩

end Go.Proofs.Ytoaopihihccfkaa
