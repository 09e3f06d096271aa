/- The Go functions of group WPastSame compute the pure functions of that group: written by walkgen.py. Condition of each: the pure function yields a result. -/
import Derived.Test.YtoaopihihccfkaaPastAL
import Derived.Test.YtoaopihihccfkaaPastRL
import Derived.Test.YtoaopihihccfkaaBuildL
import Derived.Test.YtoaopihihccfkaaEqsL
import Derived.Test.YtoaopihihccfkaaWPastSameF
import Derived.Test.YtoaopihihccfkaaEqL
namespace Go.Proofs.Ytoaopihihccfkaa
set_option linter.unusedVariables false

set_option maxRecDepth 100000 in
set_option maxHeartbeats 4000000 in
theorem annalkeep_PastSame_l (F : Nat) (p0 : DTree) (p1 : DKey) (p2 : DKey) (p3 : DKey) (p4 : Int) (r : Bool) (hF : annalkeep_PastSame F p0 p1 p2 p3 p4 = some r) (w : World) (A1 : Option Addr) (c1 : Nat) (hs1 : SlOk (vw w) eNode A1 c1 p0.nodes) :
    Calls Try.prog 10 #[.agg #[.int .i64 p0.root, .slice A1 p0.nodes.length c1], .agg #[.int .i64 p1.pfs, .int .i64 p1.obj, .int .i64 p1.off], .agg #[.int .i64 p2.pfs, .int .i64 p2.obj, .int .i64 p2.off], .agg #[.int .i64 p3.pfs, .int .i64 p3.obj, .int .i64 p3.off], .int .i64 p4] w (Post (vSc eBool) r w) := by
 unfold annalkeep_PastSame at hF
 refine T.start (l := [.agg #[.int .i64 p0.root, .slice A1 p0.nodes.length c1], .agg #[.int .i64 p1.pfs, .int .i64 p1.obj, .int .i64 p1.off], .agg #[.int .i64 p2.pfs, .int .i64 p2.obj, .int .i64 p2.off], .agg #[.int .i64 p3.pfs, .int .i64 p3.obj, .int .i64 p3.off], .int .i64 p4]) Try.func10 rfl rfl rfl ?_
 refine T.seq ?_
 refine T.region ?_
 refine T.step (W1.new 24 [.int .i64 p0.root, .slice A1 p0.nodes.length c1] (fun b => .pointer (some ⟨b, 0, none⟩)) (by kernel_rfl) (fun _ => by kernel_rfl) (fun b1 => ?_))
 refine T.step (W1.new 34 [.int .i64 p1.pfs, .int .i64 p1.obj, .int .i64 p1.off] (fun b => .pointer (some ⟨b, 0, none⟩)) (by kernel_rfl) (fun _ => by kernel_rfl) (fun b2 => ?_))
 refine T.step (W1.new 34 [.int .i64 p2.pfs, .int .i64 p2.obj, .int .i64 p2.off] (fun b => .pointer (some ⟨b, 0, none⟩)) (by kernel_rfl) (fun _ => by kernel_rfl) (fun b3 => ?_))
 refine T.step (W1.new 34 [.int .i64 p3.pfs, .int .i64 p3.obj, .int .i64 p3.off] (fun b => .pointer (some ⟨b, 0, none⟩)) (by kernel_rfl) (fun _ => by kernel_rfl) (fun b4 => ?_))
 refine T.pure (.bool false) (by kernel_rfl) (fun _ => by kernel_rfl) ?_
 refine T.nil ?_
 refine T.seq ?_
 refine T.seq ?_
 refine T.region ?_
 obtain ⟨r1, hb1, hF⟩ := Option.bind_eq_some_iff.1 hF
 refine T.step (W1.call (vAg eElem) r1 17 #[.int .i64 1, .string (ByteArray.mk #[97])] (by kernel_rfl) (fun _ => by kernel_rfl) (fun w' hh => annalkeep_at1_l 1 (ByteArray.mk #[97]) r1 hb1 w' ) ?_)
 intro u V1 hV1 hu
 obtain rfl := sureElem _ _ _ hu
 refine T.step (W1.new 39 [.int .i64 r1.key.pfs, .int .i64 r1.key.obj, .int .i64 r1.key.off, .int .i64 r1.made, .int .i64 r1.gone, .string r1.val] (fun b => .slice (some ⟨b, 0, none⟩) 1 1) (by kernel_rfl) (fun _ => by kernel_rfl) (fun b5 => ?_))
 obtain ⟨r2, hb2, hF⟩ := Option.bind_eq_some_iff.1 hF
 refine T.step (W1.call (vAg eTree) r2 16 #[.slice (some ⟨b5, 0, none⟩) 1 1] (by kernel_rfl) (fun _ => by kernel_rfl) (fun w' hh => annalkeep_of_l F [r1] r2 hb2 w' (some ⟨b5, 0, none⟩) 1 (slok_lit (E := eElem) (f := DElem.cells) [r1] (fun _ _ => rfl) (Nat.le_of_ble_eq_true (by rfl)) (fun j => hh.cellBox (i := 0) (by rfl) j))) ?_)
 intro u V2 hV2 hu
 obtain ⟨cs1, rfl, hr1⟩ := vagg_elim hu
 obtain ⟨A2, c2, rfl, hs2⟩ := hr1
 refine T.pure (.agg #[.int .i64 0, .int .i64 0, .int .i64 1]) (by kernel_rfl) (fun _ => by kernel_rfl) ?_
 obtain ⟨r3, hb3, hF⟩ := Option.bind_eq_some_iff.1 hF
 refine T.step (W1.call (vT2 (vAg eElem) (vSc eInt)) r3 30 #[.agg #[.int .i64 r2.root, .slice A2 r2.nodes.length c2], .agg #[.int .i64 0, .int .i64 0, .int .i64 1], .int .i64 1] (by kernel_rfl) (fun _ => by kernel_rfl) (fun w' hh => past_At_l F r2 (DKey.mk 0 0 1) 1 r3 hb3 w' A2 c2 (SlOk.mono (SlOk.mono hs2 (View.le_trans (made_le _ _) (View.le_refl _))) hh.view)) ?_)
 intro u V3 hV3 hu
 obtain rfl := (Sure.t2 sureElem sureInt) _ _ _ hu
 refine T.pure (.tuple #[.agg #[.int .i64 r3.1.key.pfs, .int .i64 r3.1.key.obj, .int .i64 r3.1.key.off, .int .i64 r3.1.made, .int .i64 r3.1.gone, .string r3.1.val], .int .i64 r3.2]) (by kernel_rfl) (fun _ => by kernel_rfl) ?_
 refine T.pure (.agg #[.int .i64 r3.1.key.pfs, .int .i64 r3.1.key.obj, .int .i64 r3.1.key.off, .int .i64 r3.1.made, .int .i64 r3.1.gone, .string r3.1.val]) (by kernel_rfl) (fun _ => by kernel_rfl) ?_
 refine T.pure (.int .i64 r3.2) (by kernel_rfl) (fun _ => by kernel_rfl) ?_
 refine T.step (W1.new 39 [.int .i64 0, .int .i64 0, .int .i64 0, .int .i64 0, .int .i64 0, .string (ByteArray.mk #[])] (fun b => .pointer (some ⟨b, 0, none⟩)) (by kernel_rfl) (fun _ => by kernel_rfl) (fun b6 => ?_))
 refine T.step (W1.store 0 [.int .i64 r3.1.key.pfs, .int .i64 r3.1.key.obj, .int .i64 r3.1.key.off, .int .i64 r3.1.made, .int .i64 r3.1.gone, .string r3.1.val] [box b6 39 [.int .i64 r3.1.key.pfs, .int .i64 r3.1.key.obj, .int .i64 r3.1.key.off, .int .i64 r3.1.made, .int .i64 r3.1.gone, .string r3.1.val], box b5 39 [.int .i64 r1.key.pfs, .int .i64 r1.key.obj, .int .i64 r1.key.off, .int .i64 r1.made, .int .i64 r1.gone, .string r1.val], box b4 34 [.int .i64 p3.pfs, .int .i64 p3.obj, .int .i64 p3.off], box b3 34 [.int .i64 p2.pfs, .int .i64 p2.obj, .int .i64 p2.off], box b2 34 [.int .i64 p1.pfs, .int .i64 p1.obj, .int .i64 p1.off], box b1 24 [.int .i64 p0.root, .slice A1 p0.nodes.length c1]] (by rfl) rfl (by kernel_rfl) (fun w' hw => exec_store (vs := [.int .i64 r3.1.key.pfs, .int .i64 r3.1.key.obj, .int .i64 r3.1.key.off, .int .i64 r3.1.made, .int .i64 r3.1.gone, .string r3.1.val]) rfl rfl rfl rfl (by kernel_rfl) (one_of rfl) (by simp) rfl hw) ?_)
 refine T.pure (.int .i64 r3.2) (by kernel_rfl) (fun _ => by kernel_rfl) ?_
 refine T.nil ?_
 obtain ⟨z1, hX1, hF⟩ := Option.bind_eq_some_iff.1 hF
 refine T.cut (fun a w' => Fr 97 [(4, .int .i64 p4), (5, .pointer (some ⟨b1, 0, none⟩)), (6, .pointer (some ⟨b2, 0, none⟩)), (7, .pointer (some ⟨b3, 0, none⟩)), (8, .pointer (some ⟨b4, 0, none⟩)), (36, .bool z1)] a ∧ Hp w V3 [box b4 34 [.int .i64 p3.pfs, .int .i64 p3.obj, .int .i64 p3.off], box b3 34 [.int .i64 p2.pfs, .int .i64 p2.obj, .int .i64 p2.off], box b2 34 [.int .i64 p1.pfs, .int .i64 p1.obj, .int .i64 p1.off], box b1 24 [.int .i64 p0.root, .slice A1 p0.nodes.length c1]] w') ?_ ?_
 ·
  refine T.quiet (by kernel_rfl) (by kernel_rfl) ?_
  refine TQ.pure (.int .i64 r3.2) (by kernel_rfl) (fun _ => by kernel_rfl) ?_
  refine TQ.pure (.bool (r3.2 != 0)) (by kernel_rfl) (fun _ => by kernel_rfl) ?_
  refine TQ.pure (.bool (r3.2 != 0)) (by kernel_rfl) (fun _ => by kernel_rfl) ?_
  cases hg1 : (r3.2 != 0)
  ·
   skip
   rw [hg1, cond_false] at hX1
   refine TQ.look (.agg #[.int .i64 r3.1.key.pfs, .int .i64 r3.1.key.obj, .int .i64 r3.1.key.off, .int .i64 r3.1.made, .int .i64 r3.1.gone, .string r3.1.val]) (by kernel_rfl) (fun w' hh => exec_loadN (cs := [.int .i64 r3.1.key.pfs, .int .i64 r3.1.key.obj, .int .i64 r3.1.key.off, .int .i64 r3.1.made, .int .i64 r3.1.gone, .string r3.1.val]) rfl rfl (by kernel_rfl) (by kernel_rfl) (fun j u hj => (hh.box_at (i := 0) (cs := [.int .i64 r3.1.key.pfs, .int .i64 r3.1.key.obj, .int .i64 r3.1.key.off, .int .i64 r3.1.made, .int .i64 r3.1.gone, .string r3.1.val]) (by rfl) 0 j).trans (seg_at (n := 6) (by rfl) hj))) ?_
   obtain ⟨r4, hb4, hX1⟩ := Option.bind_eq_some_iff.1 hX1
   refine TQ.call (vAg eElem) r4 17 #[.int .i64 1, .string (ByteArray.mk #[97])] (.agg #[.int .i64 r4.key.pfs, .int .i64 r4.key.obj, .int .i64 r4.key.off, .int .i64 r4.made, .int .i64 r4.gone, .string r4.val]) (fun V u hu => sureElem V u _ hu) (by kernel_rfl) (fun _ => by kernel_rfl) (fun w' hh => annalkeep_at1_l 1 (ByteArray.mk #[97]) r4 hb4 w' ) ?_
   refine TQ.look (.bool (!(r3.1 == r4))) (by kernel_rfl) (fun w' hh => exec_neq_DElem r3.1 r4 w' rfl rfl rfl) ?_
   refine TQ.pure (.bool (!(r3.1 == r4))) (by kernel_rfl) (fun _ => by kernel_rfl) ?_
   refine TQ.nil ?_
   cases hX1
   exact fun a w' hf hh => And.intro (((((((Fr.nil hf).pick hf 36 rfl).pick hf 8 rfl).pick hf 7 rfl).pick hf 6 rfl).pick hf 5 rfl).pick hf 4 rfl) (hh.sub (.cons _ (.cons _ (.cons_cons _ (.cons_cons _ (.cons_cons _ (.cons_cons _ List.Sublist.slnil)))))))
  ·
   skip
   rw [hg1, cond_true] at hX1
   refine TQ.pass (by kernel_rfl) (by kernel_rfl) ?_
   refine TQ.pass (by kernel_rfl) (by kernel_rfl) ?_
   refine TQ.pass (by kernel_rfl) (by kernel_rfl) ?_
   refine TQ.pure (.bool true) (by kernel_rfl) (fun _ => by kernel_rfl) ?_
   refine TQ.nil ?_
   cases hX1
   exact fun a w' hf hh => And.intro (((((((Fr.nil hf).pick hf 36 rfl).pick hf 8 rfl).pick hf 7 rfl).pick hf 6 rfl).pick hf 5 rfl).pick hf 4 rfl) (hh.sub (.cons _ (.cons _ (.cons_cons _ (.cons_cons _ (.cons_cons _ (.cons_cons _ List.Sublist.slnil)))))))
 ·
  rintro a w' ⟨hf, hh⟩
  refine (?_ : T 97 w V3 [box b4 34 [.int .i64 p3.pfs, .int .i64 p3.obj, .int .i64 p3.off], box b3 34 [.int .i64 p2.pfs, .int .i64 p2.obj, .int .i64 p2.off], box b2 34 [.int .i64 p1.pfs, .int .i64 p1.obj, .int .i64 p1.off], box b1 24 [.int .i64 p0.root, .slice A1 p0.nodes.length c1]] [(4, .int .i64 p4), (5, .pointer (some ⟨b1, 0, none⟩)), (6, .pointer (some ⟨b2, 0, none⟩)), (7, .pointer (some ⟨b3, 0, none⟩)), (8, .pointer (some ⟨b4, 0, none⟩)), (36, .bool z1)] _) a w' hf hh
  clear hf hh
  refine T.cond z1 (by kernel_rfl) (by kernel_rfl) (fun hc1 => ?_) (fun hc1 => ?_)
  ·
   rw [hc1, cond_true] at hF
   refine T.seq ?_
   refine T.region ?_
   refine T.pure (.bool false) (by kernel_rfl) (fun _ => by kernel_rfl) ?_
   refine T.nil ?_
   cases hF
   refine T.ret rfl ?_
   exact T.ret1 rfl (ResIs.tmp rfl) fun w' hh => ⟨_, rfl, hh.below, (show _ from rfl)⟩
  ·
   rw [hc1, cond_false] at hF
   refine T.skip_code ?_
   refine T.seq ?_
   refine T.region ?_
   refine T.look (.agg #[.int .i64 p0.root, .slice A1 p0.nodes.length c1]) (by kernel_rfl) (fun w' hh => exec_loadN (cs := [.int .i64 p0.root, .slice A1 p0.nodes.length c1]) rfl rfl (by kernel_rfl) (by kernel_rfl) (fun j u hj => (hh.box_at (i := 3) (cs := [.int .i64 p0.root, .slice A1 p0.nodes.length c1]) (by rfl) 0 j).trans (seg_at (n := 2) (by rfl) hj))) ?_
   obtain ⟨r5, hb5, hF⟩ := Option.bind_eq_some_iff.1 hF
   refine T.step (W1.call (vT2 (vSc (eList eElem)) (vSc eInt)) r5 13 #[.agg #[.int .i64 p0.root, .slice A1 p0.nodes.length c1]] (by kernel_rfl) (fun _ => by kernel_rfl) (fun w' hh => tree_All_l F p0 r5 hb5 w' A1 c1 (SlOk.mono (SlOk.mono hs1 (View.le_trans (View.le_trans hV1 hV2) hV3)) hh.view)) ?_)
   intro u V4 hV4 hu
   obtain ⟨u1, u2, rfl, hu1, hu2⟩ := vT2_elim hu
   obtain ⟨A3, c3, rfl, hs3⟩ := vlist_elim hu1
   obtain rfl := sureInt _ _ _ hu2
   refine T.pure (.tuple #[.slice A3 r5.1.length c3, .int .i64 r5.2]) (by kernel_rfl) (fun _ => by kernel_rfl) ?_
   refine T.pure (.slice A3 r5.1.length c3) (by kernel_rfl) (fun _ => by kernel_rfl) ?_
   refine T.pure (.int .i64 r5.2) (by kernel_rfl) (fun _ => by kernel_rfl) ?_
   refine T.pure (.slice A3 r5.1.length c3) (by kernel_rfl) (fun _ => by kernel_rfl) ?_
   refine T.pure (.int .i64 r5.2) (by kernel_rfl) (fun _ => by kernel_rfl) ?_
   refine T.nil ?_
   refine T.seq ?_
   obtain ⟨z2, hX2, hF⟩ := Option.bind_eq_some_iff.1 hF
   refine T.cut (fun a w' => ∃ (V5 : View), View.le V4 V5 ∧ Fr 97 [(4, .int .i64 p4), (5, .pointer (some ⟨b1, 0, none⟩)), (6, .pointer (some ⟨b2, 0, none⟩)), (7, .pointer (some ⟨b3, 0, none⟩)), (8, .pointer (some ⟨b4, 0, none⟩)), (13, .slice A3 r5.1.length c3), (48, .bool z2)] a ∧ Hp w V5 [box b4 34 [.int .i64 p3.pfs, .int .i64 p3.obj, .int .i64 p3.off], box b3 34 [.int .i64 p2.pfs, .int .i64 p2.obj, .int .i64 p2.off], box b2 34 [.int .i64 p1.pfs, .int .i64 p1.obj, .int .i64 p1.off], box b1 24 [.int .i64 p0.root, .slice A1 p0.nodes.length c1]] w') ?_ ?_
   ·
    refine T.region ?_
    refine T.pure (.int .i64 r5.2) (by kernel_rfl) (fun _ => by kernel_rfl) ?_
    refine T.pure (.bool (r5.2 != 0)) (by kernel_rfl) (fun _ => by kernel_rfl) ?_
    refine T.pure (.bool (r5.2 != 0)) (by kernel_rfl) (fun _ => by kernel_rfl) ?_
    cases hg2 : (r5.2 != 0)
    ·
     skip
     rw [hg2, cond_false] at hX2
     refine T.pure (.slice A3 r5.1.length c3) (by kernel_rfl) (fun _ => by kernel_rfl) ?_
     obtain ⟨r6, hb6, hX2⟩ := Option.bind_eq_some_iff.1 hX2
     refine T.step (W1.call (vSc eInt) r6 32 #[.slice A3 r5.1.length c3] (by kernel_rfl) (fun _ => by kernel_rfl) (fun w' hh => run_Check_l F r5.1 r6 hb6 w' A3 c3 (SlOk.mono (SlOk.mono hs3 (View.le_trans (made_le _ _) (View.le_refl _))) hh.view)) ?_)
     intro u V6 hV6 hu
     obtain rfl := sureInt _ _ _ hu
     refine T.pure (.bool (r6 != 0)) (by kernel_rfl) (fun _ => by kernel_rfl) ?_
     refine T.pure (.bool (r6 != 0)) (by kernel_rfl) (fun _ => by kernel_rfl) ?_
     refine T.nil ?_
     cases hX2
     exact fun a w' hf hh => Exists.intro V6 (And.intro hV6 (And.intro ((((((((Fr.nil hf).pick hf 48 rfl).pick hf 13 rfl).pick hf 8 rfl).pick hf 7 rfl).pick hf 6 rfl).pick hf 5 rfl).pick hf 4 rfl) (hh.sub (.cons_cons _ (.cons_cons _ (.cons_cons _ (.cons_cons _ List.Sublist.slnil)))))))
    ·
     skip
     rw [hg2, cond_true] at hX2
     refine T.pass (by kernel_rfl) (by kernel_rfl) ?_
     refine T.pass (by kernel_rfl) (by kernel_rfl) ?_
     refine T.pass (by kernel_rfl) (by kernel_rfl) ?_
     refine T.pure (.bool true) (by kernel_rfl) (fun _ => by kernel_rfl) ?_
     refine T.nil ?_
     cases hX2
     exact fun a w' hf hh => Exists.intro V4 (And.intro (View.le_refl _) (And.intro ((((((((Fr.nil hf).pick hf 48 rfl).pick hf 13 rfl).pick hf 8 rfl).pick hf 7 rfl).pick hf 6 rfl).pick hf 5 rfl).pick hf 4 rfl) (hh.sub (.cons_cons _ (.cons_cons _ (.cons_cons _ (.cons_cons _ List.Sublist.slnil)))))))
   ·
    rintro a w' ⟨V5, hV5, hf, hh⟩
    refine (?_ : T 97 w V5 [box b4 34 [.int .i64 p3.pfs, .int .i64 p3.obj, .int .i64 p3.off], box b3 34 [.int .i64 p2.pfs, .int .i64 p2.obj, .int .i64 p2.off], box b2 34 [.int .i64 p1.pfs, .int .i64 p1.obj, .int .i64 p1.off], box b1 24 [.int .i64 p0.root, .slice A1 p0.nodes.length c1]] [(4, .int .i64 p4), (5, .pointer (some ⟨b1, 0, none⟩)), (6, .pointer (some ⟨b2, 0, none⟩)), (7, .pointer (some ⟨b3, 0, none⟩)), (8, .pointer (some ⟨b4, 0, none⟩)), (13, .slice A3 r5.1.length c3), (48, .bool z2)] _) a w' hf hh
    clear hf hh
    refine T.cond z2 (by kernel_rfl) (by kernel_rfl) (fun hc2 => ?_) (fun hc2 => ?_)
    ·
     rw [hc2, cond_true] at hF
     refine T.seq ?_
     refine T.region ?_
     refine T.pure (.bool true) (by kernel_rfl) (fun _ => by kernel_rfl) ?_
     refine T.nil ?_
     cases hF
     refine T.ret rfl ?_
     exact T.ret1 rfl (ResIs.tmp rfl) fun w' hh => ⟨_, rfl, hh.below, (show _ from rfl)⟩
    ·
     rw [hc2, cond_false] at hF
     refine T.skip_code ?_
     refine T.seq ?_
     refine T.region ?_
     refine T.look (.agg #[.int .i64 p0.root, .slice A1 p0.nodes.length c1]) (by kernel_rfl) (fun w' hh => exec_loadN (cs := [.int .i64 p0.root, .slice A1 p0.nodes.length c1]) rfl rfl (by kernel_rfl) (by kernel_rfl) (fun j u hj => (hh.box_at (i := 3) (cs := [.int .i64 p0.root, .slice A1 p0.nodes.length c1]) (by rfl) 0 j).trans (seg_at (n := 2) (by rfl) hj))) ?_
     refine T.look (.agg #[.int .i64 p1.pfs, .int .i64 p1.obj, .int .i64 p1.off]) (by kernel_rfl) (fun w' hh => exec_loadN (cs := [.int .i64 p1.pfs, .int .i64 p1.obj, .int .i64 p1.off]) rfl rfl (by kernel_rfl) (by kernel_rfl) (fun j u hj => (hh.box_at (i := 2) (cs := [.int .i64 p1.pfs, .int .i64 p1.obj, .int .i64 p1.off]) (by rfl) 0 j).trans (seg_at (n := 3) (by rfl) hj))) ?_
     refine T.pure (.int .i64 p4) (by kernel_rfl) (fun _ => by kernel_rfl) ?_
     obtain ⟨r7, hb7, hF⟩ := Option.bind_eq_some_iff.1 hF
     refine T.step (W1.call (vT2 (vAg eElem) (vSc eInt)) r7 30 #[.agg #[.int .i64 p0.root, .slice A1 p0.nodes.length c1], .agg #[.int .i64 p1.pfs, .int .i64 p1.obj, .int .i64 p1.off], .int .i64 p4] (by kernel_rfl) (fun _ => by kernel_rfl) (fun w' hh => past_At_l F p0 p1 p4 r7 hb7 w' A1 c1 (SlOk.mono (SlOk.mono hs1 (View.le_trans (View.le_trans (View.le_trans (View.le_trans hV1 hV2) hV3) hV4) hV5)) hh.view)) ?_)
     intro u V7 hV7 hu
     obtain rfl := (Sure.t2 sureElem sureInt) _ _ _ hu
     refine T.pure (.tuple #[.agg #[.int .i64 r7.1.key.pfs, .int .i64 r7.1.key.obj, .int .i64 r7.1.key.off, .int .i64 r7.1.made, .int .i64 r7.1.gone, .string r7.1.val], .int .i64 r7.2]) (by kernel_rfl) (fun _ => by kernel_rfl) ?_
     refine T.pure (.agg #[.int .i64 r7.1.key.pfs, .int .i64 r7.1.key.obj, .int .i64 r7.1.key.off, .int .i64 r7.1.made, .int .i64 r7.1.gone, .string r7.1.val]) (by kernel_rfl) (fun _ => by kernel_rfl) ?_
     refine T.pure (.int .i64 r7.2) (by kernel_rfl) (fun _ => by kernel_rfl) ?_
     refine T.step (W1.new 39 [.int .i64 0, .int .i64 0, .int .i64 0, .int .i64 0, .int .i64 0, .string (ByteArray.mk #[])] (fun b => .pointer (some ⟨b, 0, none⟩)) (by kernel_rfl) (fun _ => by kernel_rfl) (fun b7 => ?_))
     refine T.step (W1.store 0 [.int .i64 r7.1.key.pfs, .int .i64 r7.1.key.obj, .int .i64 r7.1.key.off, .int .i64 r7.1.made, .int .i64 r7.1.gone, .string r7.1.val] [box b7 39 [.int .i64 r7.1.key.pfs, .int .i64 r7.1.key.obj, .int .i64 r7.1.key.off, .int .i64 r7.1.made, .int .i64 r7.1.gone, .string r7.1.val], box b4 34 [.int .i64 p3.pfs, .int .i64 p3.obj, .int .i64 p3.off], box b3 34 [.int .i64 p2.pfs, .int .i64 p2.obj, .int .i64 p2.off], box b2 34 [.int .i64 p1.pfs, .int .i64 p1.obj, .int .i64 p1.off], box b1 24 [.int .i64 p0.root, .slice A1 p0.nodes.length c1]] (by rfl) rfl (by kernel_rfl) (fun w' hw => exec_store (vs := [.int .i64 r7.1.key.pfs, .int .i64 r7.1.key.obj, .int .i64 r7.1.key.off, .int .i64 r7.1.made, .int .i64 r7.1.gone, .string r7.1.val]) rfl rfl rfl rfl (by kernel_rfl) (one_of rfl) (by simp) rfl hw) ?_)
     refine T.pure (.int .i64 r7.2) (by kernel_rfl) (fun _ => by kernel_rfl) ?_
     refine T.nil ?_
     refine T.seq ?_
     refine T.region ?_
     refine T.pure (.slice A3 r5.1.length c3) (by kernel_rfl) (fun _ => by kernel_rfl) ?_
     refine T.look (.agg #[.int .i64 p1.pfs, .int .i64 p1.obj, .int .i64 p1.off]) (by kernel_rfl) (fun w' hh => exec_loadN (cs := [.int .i64 p1.pfs, .int .i64 p1.obj, .int .i64 p1.off]) rfl rfl (by kernel_rfl) (by kernel_rfl) (fun j u hj => (hh.box_at (i := 3) (cs := [.int .i64 p1.pfs, .int .i64 p1.obj, .int .i64 p1.off]) (by rfl) 0 j).trans (seg_at (n := 3) (by rfl) hj))) ?_
     refine T.pure (.int .i64 p4) (by kernel_rfl) (fun _ => by kernel_rfl) ?_
     obtain ⟨r8, hb8, hF⟩ := Option.bind_eq_some_iff.1 hF
     refine T.step (W1.call (vT2 (vAg eElem) (vSc eInt)) r8 33 #[.slice A3 r5.1.length c3, .agg #[.int .i64 p1.pfs, .int .i64 p1.obj, .int .i64 p1.off], .int .i64 p4] (by kernel_rfl) (fun _ => by kernel_rfl) (fun w' hh => run_At_l F r5.1 p1 p4 r8 hb8 w' A3 c3 (SlOk.mono (SlOk.mono hs3 (View.le_trans (made_le _ _) (View.le_trans hV5 hV7))) hh.view)) ?_)
     intro u V8 hV8 hu
     obtain rfl := (Sure.t2 sureElem sureInt) _ _ _ hu
     refine T.pure (.tuple #[.agg #[.int .i64 r8.1.key.pfs, .int .i64 r8.1.key.obj, .int .i64 r8.1.key.off, .int .i64 r8.1.made, .int .i64 r8.1.gone, .string r8.1.val], .int .i64 r8.2]) (by kernel_rfl) (fun _ => by kernel_rfl) ?_
     refine T.pure (.agg #[.int .i64 r8.1.key.pfs, .int .i64 r8.1.key.obj, .int .i64 r8.1.key.off, .int .i64 r8.1.made, .int .i64 r8.1.gone, .string r8.1.val]) (by kernel_rfl) (fun _ => by kernel_rfl) ?_
     refine T.pure (.int .i64 r8.2) (by kernel_rfl) (fun _ => by kernel_rfl) ?_
     refine T.step (W1.new 39 [.int .i64 0, .int .i64 0, .int .i64 0, .int .i64 0, .int .i64 0, .string (ByteArray.mk #[])] (fun b => .pointer (some ⟨b, 0, none⟩)) (by kernel_rfl) (fun _ => by kernel_rfl) (fun b8 => ?_))
     refine T.step (W1.store 0 [.int .i64 r8.1.key.pfs, .int .i64 r8.1.key.obj, .int .i64 r8.1.key.off, .int .i64 r8.1.made, .int .i64 r8.1.gone, .string r8.1.val] [box b8 39 [.int .i64 r8.1.key.pfs, .int .i64 r8.1.key.obj, .int .i64 r8.1.key.off, .int .i64 r8.1.made, .int .i64 r8.1.gone, .string r8.1.val], box b7 39 [.int .i64 r7.1.key.pfs, .int .i64 r7.1.key.obj, .int .i64 r7.1.key.off, .int .i64 r7.1.made, .int .i64 r7.1.gone, .string r7.1.val], box b4 34 [.int .i64 p3.pfs, .int .i64 p3.obj, .int .i64 p3.off], box b3 34 [.int .i64 p2.pfs, .int .i64 p2.obj, .int .i64 p2.off], box b2 34 [.int .i64 p1.pfs, .int .i64 p1.obj, .int .i64 p1.off], box b1 24 [.int .i64 p0.root, .slice A1 p0.nodes.length c1]] (by rfl) rfl (by kernel_rfl) (fun w' hw => exec_store (vs := [.int .i64 r8.1.key.pfs, .int .i64 r8.1.key.obj, .int .i64 r8.1.key.off, .int .i64 r8.1.made, .int .i64 r8.1.gone, .string r8.1.val]) rfl rfl rfl rfl (by kernel_rfl) (one_of rfl) (by simp) rfl hw) ?_)
     refine T.pure (.int .i64 r8.2) (by kernel_rfl) (fun _ => by kernel_rfl) ?_
     refine T.nil ?_
     refine T.seq ?_
     refine T.region ?_
     refine T.look (.agg #[.int .i64 p0.root, .slice A1 p0.nodes.length c1]) (by kernel_rfl) (fun w' hh => exec_loadN (cs := [.int .i64 p0.root, .slice A1 p0.nodes.length c1]) rfl rfl (by kernel_rfl) (by kernel_rfl) (fun j u hj => (hh.box_at (i := 5) (cs := [.int .i64 p0.root, .slice A1 p0.nodes.length c1]) (by rfl) 0 j).trans (seg_at (n := 2) (by rfl) hj))) ?_
     refine T.look (.agg #[.int .i64 p2.pfs, .int .i64 p2.obj, .int .i64 p2.off]) (by kernel_rfl) (fun w' hh => exec_loadN (cs := [.int .i64 p2.pfs, .int .i64 p2.obj, .int .i64 p2.off]) rfl rfl (by kernel_rfl) (by kernel_rfl) (fun j u hj => (hh.box_at (i := 3) (cs := [.int .i64 p2.pfs, .int .i64 p2.obj, .int .i64 p2.off]) (by rfl) 0 j).trans (seg_at (n := 3) (by rfl) hj))) ?_
     refine T.look (.agg #[.int .i64 p3.pfs, .int .i64 p3.obj, .int .i64 p3.off]) (by kernel_rfl) (fun w' hh => exec_loadN (cs := [.int .i64 p3.pfs, .int .i64 p3.obj, .int .i64 p3.off]) rfl rfl (by kernel_rfl) (by kernel_rfl) (fun j u hj => (hh.box_at (i := 2) (cs := [.int .i64 p3.pfs, .int .i64 p3.obj, .int .i64 p3.off]) (by rfl) 0 j).trans (seg_at (n := 3) (by rfl) hj))) ?_
     refine T.pure (.int .i64 p4) (by kernel_rfl) (fun _ => by kernel_rfl) ?_
     obtain ⟨r9, hb9, hF⟩ := Option.bind_eq_some_iff.1 hF
     refine T.step (W1.call (vT2 (vSc (eList eElem)) (vSc eInt)) r9 34 #[.agg #[.int .i64 p0.root, .slice A1 p0.nodes.length c1], .agg #[.int .i64 p2.pfs, .int .i64 p2.obj, .int .i64 p2.off], .agg #[.int .i64 p3.pfs, .int .i64 p3.obj, .int .i64 p3.off], .int .i64 p4] (by kernel_rfl) (fun _ => by kernel_rfl) (fun w' hh => past_Range_l F p0 p2 p3 p4 r9 hb9 w' A1 c1 (SlOk.mono (SlOk.mono hs1 (View.le_trans (View.le_trans (View.le_trans (View.le_trans (View.le_trans (View.le_trans hV1 hV2) hV3) hV4) hV5) hV7) hV8)) hh.view)) ?_)
     intro u V9 hV9 hu
     obtain ⟨u3, u4, rfl, hu3, hu4⟩ := vT2_elim hu
     obtain ⟨A4, c4, rfl, hs4⟩ := vlist_elim hu3
     obtain rfl := sureInt _ _ _ hu4
     refine T.pure (.tuple #[.slice A4 r9.1.length c4, .int .i64 r9.2]) (by kernel_rfl) (fun _ => by kernel_rfl) ?_
     refine T.pure (.slice A4 r9.1.length c4) (by kernel_rfl) (fun _ => by kernel_rfl) ?_
     refine T.pure (.int .i64 r9.2) (by kernel_rfl) (fun _ => by kernel_rfl) ?_
     refine T.pure (.slice A4 r9.1.length c4) (by kernel_rfl) (fun _ => by kernel_rfl) ?_
     refine T.pure (.int .i64 r9.2) (by kernel_rfl) (fun _ => by kernel_rfl) ?_
     refine T.nil ?_
     refine T.seq ?_
     refine T.region ?_
     refine T.pure (.slice A3 r5.1.length c3) (by kernel_rfl) (fun _ => by kernel_rfl) ?_
     refine T.look (.agg #[.int .i64 p2.pfs, .int .i64 p2.obj, .int .i64 p2.off]) (by kernel_rfl) (fun w' hh => exec_loadN (cs := [.int .i64 p2.pfs, .int .i64 p2.obj, .int .i64 p2.off]) rfl rfl (by kernel_rfl) (by kernel_rfl) (fun j u hj => (hh.box_at (i := 3) (cs := [.int .i64 p2.pfs, .int .i64 p2.obj, .int .i64 p2.off]) (by rfl) 0 j).trans (seg_at (n := 3) (by rfl) hj))) ?_
     refine T.look (.agg #[.int .i64 p3.pfs, .int .i64 p3.obj, .int .i64 p3.off]) (by kernel_rfl) (fun w' hh => exec_loadN (cs := [.int .i64 p3.pfs, .int .i64 p3.obj, .int .i64 p3.off]) rfl rfl (by kernel_rfl) (by kernel_rfl) (fun j u hj => (hh.box_at (i := 2) (cs := [.int .i64 p3.pfs, .int .i64 p3.obj, .int .i64 p3.off]) (by rfl) 0 j).trans (seg_at (n := 3) (by rfl) hj))) ?_
     refine T.pure (.int .i64 p4) (by kernel_rfl) (fun _ => by kernel_rfl) ?_
     obtain ⟨r10, hb10, hF⟩ := Option.bind_eq_some_iff.1 hF
     refine T.step (W1.call (vT2 (vSc (eList eElem)) (vSc eInt)) r10 35 #[.slice A3 r5.1.length c3, .agg #[.int .i64 p2.pfs, .int .i64 p2.obj, .int .i64 p2.off], .agg #[.int .i64 p3.pfs, .int .i64 p3.obj, .int .i64 p3.off], .int .i64 p4] (by kernel_rfl) (fun _ => by kernel_rfl) (fun w' hh => run_Range_l F r5.1 p2 p3 p4 r10 hb10 w' A3 c3 (SlOk.mono (SlOk.mono hs3 (View.le_trans (made_le _ _) (View.le_trans (View.le_trans (View.le_trans hV5 hV7) hV8) hV9))) hh.view)) ?_)
     intro u V10 hV10 hu
     obtain ⟨u5, u6, rfl, hu5, hu6⟩ := vT2_elim hu
     obtain ⟨A5, c5, rfl, hs5⟩ := vlist_elim hu5
     obtain rfl := sureInt _ _ _ hu6
     refine T.pure (.tuple #[.slice A5 r10.1.length c5, .int .i64 r10.2]) (by kernel_rfl) (fun _ => by kernel_rfl) ?_
     refine T.pure (.slice A5 r10.1.length c5) (by kernel_rfl) (fun _ => by kernel_rfl) ?_
     refine T.pure (.int .i64 r10.2) (by kernel_rfl) (fun _ => by kernel_rfl) ?_
     refine T.pure (.slice A5 r10.1.length c5) (by kernel_rfl) (fun _ => by kernel_rfl) ?_
     refine T.pure (.int .i64 r10.2) (by kernel_rfl) (fun _ => by kernel_rfl) ?_
     refine T.nil ?_
     obtain ⟨z3, hX3, hF⟩ := Option.bind_eq_some_iff.1 hF
     refine T.cut (fun a w' => ∃ (V11 : View), View.le V10 V11 ∧ Fr 97 [(10, .bool z3)] a ∧ Hp w V11 [] w') ?_ ?_
     ·
      refine T.region ?_
      refine T.look (.agg #[.int .i64 r7.1.key.pfs, .int .i64 r7.1.key.obj, .int .i64 r7.1.key.off, .int .i64 r7.1.made, .int .i64 r7.1.gone, .string r7.1.val]) (by kernel_rfl) (fun w' hh => exec_loadN (cs := [.int .i64 r7.1.key.pfs, .int .i64 r7.1.key.obj, .int .i64 r7.1.key.off, .int .i64 r7.1.made, .int .i64 r7.1.gone, .string r7.1.val]) rfl rfl (by kernel_rfl) (by kernel_rfl) (fun j u hj => (hh.box_at (i := 1) (cs := [.int .i64 r7.1.key.pfs, .int .i64 r7.1.key.obj, .int .i64 r7.1.key.off, .int .i64 r7.1.made, .int .i64 r7.1.gone, .string r7.1.val]) (by rfl) 0 j).trans (seg_at (n := 6) (by rfl) hj))) ?_
      refine T.look (.agg #[.int .i64 r8.1.key.pfs, .int .i64 r8.1.key.obj, .int .i64 r8.1.key.off, .int .i64 r8.1.made, .int .i64 r8.1.gone, .string r8.1.val]) (by kernel_rfl) (fun w' hh => exec_loadN (cs := [.int .i64 r8.1.key.pfs, .int .i64 r8.1.key.obj, .int .i64 r8.1.key.off, .int .i64 r8.1.made, .int .i64 r8.1.gone, .string r8.1.val]) rfl rfl (by kernel_rfl) (by kernel_rfl) (fun j u hj => (hh.box_at (i := 0) (cs := [.int .i64 r8.1.key.pfs, .int .i64 r8.1.key.obj, .int .i64 r8.1.key.off, .int .i64 r8.1.made, .int .i64 r8.1.gone, .string r8.1.val]) (by rfl) 0 j).trans (seg_at (n := 6) (by rfl) hj))) ?_
      refine T.look (.bool (r7.1 == r8.1)) (by kernel_rfl) (fun w' hh => exec_eql_DElem r7.1 r8.1 w' rfl rfl rfl) ?_
      refine T.pure (.bool (r7.1 == r8.1)) (by kernel_rfl) (fun _ => by kernel_rfl) ?_
      cases hg3 : (r7.1 == r8.1)
      ·
       skip
       rw [hg3, cond_false] at hX3
       refine T.pass (by kernel_rfl) (by kernel_rfl) ?_
       refine T.pass (by kernel_rfl) (by kernel_rfl) ?_
       refine T.pass (by kernel_rfl) (by kernel_rfl) ?_
       refine T.pure (.bool false) (by kernel_rfl) (fun _ => by kernel_rfl) ?_
       refine T.pure (.bool false) (by kernel_rfl) (fun _ => by kernel_rfl) ?_
       refine T.pass (by kernel_rfl) (by kernel_rfl) ?_
       refine T.pass (by kernel_rfl) (by kernel_rfl) ?_
       refine T.pass (by kernel_rfl) (by kernel_rfl) ?_
       refine T.pure (.bool false) (by kernel_rfl) (fun _ => by kernel_rfl) ?_
       refine T.pure (.bool false) (by kernel_rfl) (fun _ => by kernel_rfl) ?_
       refine T.pass (by kernel_rfl) (by kernel_rfl) ?_
       refine T.pass (by kernel_rfl) (by kernel_rfl) ?_
       refine T.pass (by kernel_rfl) (by kernel_rfl) ?_
       refine T.pure (.bool false) (by kernel_rfl) (fun _ => by kernel_rfl) ?_
       refine T.pure (.bool false) (by kernel_rfl) (fun _ => by kernel_rfl) ?_
       refine T.nil ?_
       cases hX3
       exact fun a w' hf hh => Exists.intro V10 (And.intro (View.le_refl _) (And.intro ((Fr.nil hf).pick hf 10 rfl) (hh.sub (.cons _ (.cons _ (.cons _ (.cons _ (.cons _ (.cons _ List.Sublist.slnil)))))))))
      ·
       skip
       rw [hg3, cond_true] at hX3
       refine T.pure (.int .i64 r7.2) (by kernel_rfl) (fun _ => by kernel_rfl) ?_
       refine T.pure (.int .i64 r8.2) (by kernel_rfl) (fun _ => by kernel_rfl) ?_
       refine T.pure (.bool (r7.2 == r8.2)) (by kernel_rfl) (fun _ => by kernel_rfl) ?_
       refine T.pure (.bool (r7.2 == r8.2)) (by kernel_rfl) (fun _ => by kernel_rfl) ?_
       refine T.pure (.bool (r7.2 == r8.2)) (by kernel_rfl) (fun _ => by kernel_rfl) ?_
       cases hg4 : (r7.2 == r8.2)
       ·
        skip
        rw [hg4, cond_false] at hX3
        refine T.pass (by kernel_rfl) (by kernel_rfl) ?_
        refine T.pass (by kernel_rfl) (by kernel_rfl) ?_
        refine T.pass (by kernel_rfl) (by kernel_rfl) ?_
        refine T.pure (.bool false) (by kernel_rfl) (fun _ => by kernel_rfl) ?_
        refine T.pure (.bool false) (by kernel_rfl) (fun _ => by kernel_rfl) ?_
        refine T.pass (by kernel_rfl) (by kernel_rfl) ?_
        refine T.pass (by kernel_rfl) (by kernel_rfl) ?_
        refine T.pass (by kernel_rfl) (by kernel_rfl) ?_
        refine T.pure (.bool false) (by kernel_rfl) (fun _ => by kernel_rfl) ?_
        refine T.pure (.bool false) (by kernel_rfl) (fun _ => by kernel_rfl) ?_
        refine T.nil ?_
        cases hX3
        exact fun a w' hf hh => Exists.intro V10 (And.intro (View.le_refl _) (And.intro ((Fr.nil hf).pick hf 10 rfl) (hh.sub (.cons _ (.cons _ (.cons _ (.cons _ (.cons _ (.cons _ List.Sublist.slnil)))))))))
       ·
        skip
        rw [hg4, cond_true] at hX3
        refine T.pure (.slice A4 r9.1.length c4) (by kernel_rfl) (fun _ => by kernel_rfl) ?_
        refine T.pure (.slice A5 r10.1.length c5) (by kernel_rfl) (fun _ => by kernel_rfl) ?_
        obtain ⟨r11, hb11, hX3⟩ := Option.bind_eq_some_iff.1 hX3
        refine T.step (W1.call (vSc eBool) r11 25 #[.slice A4 r9.1.length c4, .slice A5 r10.1.length c5] (by kernel_rfl) (fun _ => by kernel_rfl) (fun w' hh => slices_Equal_Elem_l F r9.1 r10.1 r11 hb11 w' A4 c4 (SlOk.mono (SlOk.mono hs4 (View.le_trans (made_le _ _) hV10)) hh.view) A5 c5 (SlOk.mono (SlOk.mono hs5 (View.le_trans (made_le _ _) (View.le_refl _))) hh.view)) ?_)
        intro u V12 hV12 hu
        obtain rfl := sureBool _ _ _ hu
        refine T.pure (.bool r11) (by kernel_rfl) (fun _ => by kernel_rfl) ?_
        refine T.pure (.bool r11) (by kernel_rfl) (fun _ => by kernel_rfl) ?_
        cases hg5 : r11
        ·
         skip
         rw [hg5, cond_false] at hX3
         refine T.pass (by kernel_rfl) (by kernel_rfl) ?_
         refine T.pass (by kernel_rfl) (by kernel_rfl) ?_
         refine T.pass (by kernel_rfl) (by kernel_rfl) ?_
         refine T.pure (.bool false) (by kernel_rfl) (fun _ => by kernel_rfl) ?_
         refine T.pure (.bool false) (by kernel_rfl) (fun _ => by kernel_rfl) ?_
         refine T.nil ?_
         cases hX3
         exact fun a w' hf hh => Exists.intro V12 (And.intro hV12 (And.intro ((Fr.nil hf).pick hf 10 rfl) (hh.sub (.cons _ (.cons _ (.cons _ (.cons _ (.cons _ (.cons _ List.Sublist.slnil)))))))))
        ·
         skip
         rw [hg5, cond_true] at hX3
         refine T.pure (.int .i64 r9.2) (by kernel_rfl) (fun _ => by kernel_rfl) ?_
         refine T.pure (.int .i64 r10.2) (by kernel_rfl) (fun _ => by kernel_rfl) ?_
         refine T.pure (.bool (r9.2 == r10.2)) (by kernel_rfl) (fun _ => by kernel_rfl) ?_
         refine T.pure (.bool (r9.2 == r10.2)) (by kernel_rfl) (fun _ => by kernel_rfl) ?_
         refine T.pure (.bool (r9.2 == r10.2)) (by kernel_rfl) (fun _ => by kernel_rfl) ?_
         refine T.nil ?_
         cases hX3
         exact fun a w' hf hh => Exists.intro V12 (And.intro hV12 (And.intro ((Fr.nil hf).pick hf 10 rfl) (hh.sub (.cons _ (.cons _ (.cons _ (.cons _ (.cons _ (.cons _ List.Sublist.slnil)))))))))
     ·
      rintro a w' ⟨V11, hV11, hf, hh⟩
      refine (?_ : T 97 w V11 [] [(10, .bool z3)] _) a w' hf hh
      clear hf hh
      cases hF
      refine T.ret rfl ?_
      exact T.ret1 rfl (ResIs.tmp rfl) fun w' hh => ⟨_, rfl, hh.below, (show _ from rfl)⟩

end Go.Proofs.Ytoaopihihccfkaa
