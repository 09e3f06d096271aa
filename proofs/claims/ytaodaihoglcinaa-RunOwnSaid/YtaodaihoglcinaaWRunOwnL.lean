/- The Go functions of group WRunOwn compute the pure functions of that group: written by walkgen.py. Condition of each: the pure function yields a result. -/
import Derived.Test.YtaodaihoglcinaaPruneL
import Derived.Test.YtaodaihoglcinaaEqsL
import Derived.Test.YtaodaihoglcinaaSpoil
import Derived.Test.YtaodaihoglcinaaOwnL
import Derived.Test.YtaodaihoglcinaaRoom
import Derived.Test.YtaodaihoglcinaaWRunOwnF
import Derived.Test.YtaodaihoglcinaaEqL
namespace Go.Proofs.Ytaodaihoglcinaa
set_option linter.unusedVariables false

set_option maxRecDepth 100000 in
set_option maxHeartbeats 4000000 in
theorem annalkeep_RunOwn_l (F : Nat) (p0 : (List DElem)) (p1 : DKey) (p2 : ByteArray) (p3 : Int) (p4 : (List Int)) (r : Bool) (hF : annalkeep_RunOwn F p0 p1 p2 p3 p4 = some r) (w : World) (A1 : Option Addr) (c1 : Nat) (hs1 : SlOk (vw w) eElem A1 c1 p0) (A2 : Option Addr) (c2 : Nat) (hs2 : SlOk (vw w) eInt A2 c2 p4) :
    Calls Try.prog 3 #[.slice A1 p0.length c1, .agg #[.int .i64 p1.pfs, .int .i64 p1.obj, .int .i64 p1.off], .string p2, .int .i64 p3, .slice A2 p4.length c2] w (Post (vSc eBool) r w) := by
 unfold annalkeep_RunOwn at hF
 refine T.start (l := [.slice A1 p0.length c1, .agg #[.int .i64 p1.pfs, .int .i64 p1.obj, .int .i64 p1.off], .string p2, .int .i64 p3, .slice A2 p4.length c2]) Try.func3 rfl rfl rfl ?_
 refine T.seq ?_
 refine T.region ?_
 refine T.step (W1.new 24 [.int .i64 p1.pfs, .int .i64 p1.obj, .int .i64 p1.off] (fun b => .pointer (some ⟨b, 0, none⟩)) (by kernel_rfl) (fun _ => by kernel_rfl) (fun b1 => ?_))
 refine T.pure (.bool false) (by kernel_rfl) (fun _ => by kernel_rfl) ?_
 refine T.nil ?_
 refine T.seq ?_
 refine T.region ?_
 refine T.pure (.slice A1 p0.length c1) (by kernel_rfl) (fun _ => by kernel_rfl) ?_
 obtain ⟨r1, hb1, hF⟩ := Option.bind_eq_some_iff.1 hF
 refine T.step (W1.call (vAg eElem) r1 5 #[] (by kernel_rfl) (fun _ => by kernel_rfl) (fun w' hh => annalkeep_mark_l  r1 hb1 w' ) ?_)
 intro u V1 hV1 hu
 obtain rfl := sureElem _ _ _ hu
 obtain ⟨u1, hb2, hF⟩ := Option.bind_eq_some_iff.1 hF
 refine T.step (W1.callG 4 #[.slice A1 p0.length c1, .agg #[.int .i64 r1.key.pfs, .int .i64 r1.key.obj, .int .i64 r1.key.off, .int .i64 r1.made, .int .i64 r1.gone, .string r1.val]] (fun p : Option Addr => .slice p p0.length (p0.length + 3)) (fun p => [row 28 eElem p (p0.length + 3) (p0 ++ [r1, r1, r1])]) (fun _ => True) (by kernel_rfl) (fun _ => by kernel_rfl) (fun w' hh => own_roomy_Elem p0 r1 _ _ w' ((SlOk.mono (SlOk.mono hs1 hV1) hh.view)) (makes_some hb2).2.1 (makes_some hb2).2.2) ?_)
 rintro A3 _
 refine T.reH (H' := [row 28 eElem A3 (p0.length + 3) (p0 ++ [r1, r1, r1]), box b1 24 [.int .i64 p1.pfs, .int .i64 p1.obj, .int .i64 p1.off]]) (by rfl) ?_
 refine T.pure (.slice A3 p0.length (p0.length + 3)) (by kernel_rfl) (fun _ => by kernel_rfl) ?_
 refine T.nil ?_
 refine T.seq ?_
 refine T.region ?_
 refine T.pure (.slice A3 p0.length (p0.length + 3)) (by kernel_rfl) (fun _ => by kernel_rfl) ?_
 refine T.look (.agg #[.int .i64 p1.pfs, .int .i64 p1.obj, .int .i64 p1.off]) (by kernel_rfl) (fun w' hh => exec_loadN (cs := [.int .i64 p1.pfs, .int .i64 p1.obj, .int .i64 p1.off]) rfl rfl (by kernel_rfl) (by kernel_rfl) (fun j u hj => (hh.box_at (i := 1) (cs := [.int .i64 p1.pfs, .int .i64 p1.obj, .int .i64 p1.off]) (by rfl) 0 j).trans (seg_at (n := 3) (by rfl) hj))) ?_
 refine T.pure (.string p2) (by kernel_rfl) (fun _ => by kernel_rfl) ?_
 refine T.pure (.int .i64 p3) (by kernel_rfl) (fun _ => by kernel_rfl) ?_
 obtain ⟨r3, hb3, hF⟩ := Option.bind_eq_some_iff.1 hF
 refine T.step (W1.callG 6 #[.slice A3 p0.length (p0.length + 3), .agg #[.int .i64 p1.pfs, .int .i64 p1.obj, .int .i64 p1.off], .string p2, .int .i64 p3] (fun p : Option Addr × Nat => .tuple #[.slice p.1 r3.1.length p.2, .int .i64 r3.2]) (fun p => [row 28 eElem p.1 p.2 r3.1]) (fun _ => True) (by kernel_rfl) (fun _ => by kernel_rfl) (fun w' hh => run_Put_l F p0 p1 p2 p3 r3 hb3 w' A3 (p0.length + 3) (SlOk.cut0 (hh.row_slOk (i := 0) (by rfl)) (lslice_app p0 _))) ?_)
 rintro ⟨A4, c3⟩ _
 refine T.reH (H' := [row 28 eElem A4 c3 r3.1, row 28 eElem A3 (p0.length + 3) (p0 ++ [r1, r1, r1]), box b1 24 [.int .i64 p1.pfs, .int .i64 p1.obj, .int .i64 p1.off]]) (by rfl) ?_
 refine T.pure (.tuple #[.slice A4 r3.1.length c3, .int .i64 r3.2]) (by kernel_rfl) (fun _ => by kernel_rfl) ?_
 refine T.pure (.slice A4 r3.1.length c3) (by kernel_rfl) (fun _ => by kernel_rfl) ?_
 refine T.pure (.int .i64 r3.2) (by kernel_rfl) (fun _ => by kernel_rfl) ?_
 refine T.pure (.slice A4 r3.1.length c3) (by kernel_rfl) (fun _ => by kernel_rfl) ?_
 refine T.pure (.int .i64 r3.2) (by kernel_rfl) (fun _ => by kernel_rfl) ?_
 refine T.nil ?_
 refine T.seq ?_
 refine T.region ?_
 refine T.pure (.slice A3 p0.length (p0.length + 3)) (by kernel_rfl) (fun _ => by kernel_rfl) ?_
 refine T.look (.agg #[.int .i64 p1.pfs, .int .i64 p1.obj, .int .i64 p1.off]) (by kernel_rfl) (fun w' hh => exec_loadN (cs := [.int .i64 p1.pfs, .int .i64 p1.obj, .int .i64 p1.off]) rfl rfl (by kernel_rfl) (by kernel_rfl) (fun j u hj => (hh.box_at (i := 2) (cs := [.int .i64 p1.pfs, .int .i64 p1.obj, .int .i64 p1.off]) (by rfl) 0 j).trans (seg_at (n := 3) (by rfl) hj))) ?_
 refine T.pure (.int .i64 p3) (by kernel_rfl) (fun _ => by kernel_rfl) ?_
 obtain ⟨r5, hb4, hF⟩ := Option.bind_eq_some_iff.1 hF
 refine T.step (W1.callG 7 #[.slice A3 p0.length (p0.length + 3), .agg #[.int .i64 p1.pfs, .int .i64 p1.obj, .int .i64 p1.off], .int .i64 p3] (fun p : Option Addr × Nat => .tuple #[.slice p.1 r5.1.length p.2, .int .i64 r5.2]) (fun p => [row 28 eElem p.1 p.2 r5.1]) (fun _ => True) (by kernel_rfl) (fun _ => by kernel_rfl) (fun w' hh => run_Cut_l F p0 p1 p3 r5 hb4 w' A3 (p0.length + 3) (SlOk.cut0 (hh.row_slOk (i := 1) (by rfl)) (lslice_app p0 _))) ?_)
 rintro ⟨A5, c4⟩ _
 refine T.reH (H' := [row 28 eElem A5 c4 r5.1, row 28 eElem A4 c3 r3.1, row 28 eElem A3 (p0.length + 3) (p0 ++ [r1, r1, r1]), box b1 24 [.int .i64 p1.pfs, .int .i64 p1.obj, .int .i64 p1.off]]) (by rfl) ?_
 refine T.pure (.tuple #[.slice A5 r5.1.length c4, .int .i64 r5.2]) (by kernel_rfl) (fun _ => by kernel_rfl) ?_
 refine T.pure (.slice A5 r5.1.length c4) (by kernel_rfl) (fun _ => by kernel_rfl) ?_
 refine T.pure (.int .i64 r5.2) (by kernel_rfl) (fun _ => by kernel_rfl) ?_
 refine T.pure (.slice A5 r5.1.length c4) (by kernel_rfl) (fun _ => by kernel_rfl) ?_
 refine T.pure (.int .i64 r5.2) (by kernel_rfl) (fun _ => by kernel_rfl) ?_
 refine T.nil ?_
 refine T.seq ?_
 refine T.region ?_
 refine T.pure (.slice A3 p0.length (p0.length + 3)) (by kernel_rfl) (fun _ => by kernel_rfl) ?_
 refine T.pure (.agg #[.int .i64 0, .int .i64 0, .int .i64 0]) (by kernel_rfl) (fun _ => by kernel_rfl) ?_
 refine T.pure (.agg #[.int .i64 15, .int .i64 9, .int .i64 9]) (by kernel_rfl) (fun _ => by kernel_rfl) ?_
 refine T.pure (.int .i64 p3) (by kernel_rfl) (fun _ => by kernel_rfl) ?_
 obtain ⟨r7, hb5, hF⟩ := Option.bind_eq_some_iff.1 hF
 refine T.step (W1.callG 8 #[.slice A3 p0.length (p0.length + 3), .agg #[.int .i64 0, .int .i64 0, .int .i64 0], .agg #[.int .i64 15, .int .i64 9, .int .i64 9], .int .i64 p3] (fun p : Option Addr × Nat => .tuple #[.slice p.1 r7.1.length p.2, .int .i64 r7.2]) (fun p => [row 28 eElem p.1 p.2 r7.1]) (fun _ => True) (by kernel_rfl) (fun _ => by kernel_rfl) (fun w' hh => run_Range_l F p0 (DKey.mk 0 0 0) (DKey.mk 15 9 9) p3 r7 hb5 w' A3 (p0.length + 3) (SlOk.cut0 (hh.row_slOk (i := 2) (by rfl)) (lslice_app p0 _))) ?_)
 rintro ⟨A6, c5⟩ _
 refine T.reH (H' := [row 28 eElem A6 c5 r7.1, row 28 eElem A5 c4 r5.1, row 28 eElem A4 c3 r3.1, row 28 eElem A3 (p0.length + 3) (p0 ++ [r1, r1, r1]), box b1 24 [.int .i64 p1.pfs, .int .i64 p1.obj, .int .i64 p1.off]]) (by rfl) ?_
 refine T.pure (.tuple #[.slice A6 r7.1.length c5, .int .i64 r7.2]) (by kernel_rfl) (fun _ => by kernel_rfl) ?_
 refine T.pure (.slice A6 r7.1.length c5) (by kernel_rfl) (fun _ => by kernel_rfl) ?_
 refine T.pure (.int .i64 r7.2) (by kernel_rfl) (fun _ => by kernel_rfl) ?_
 refine T.pure (.slice A6 r7.1.length c5) (by kernel_rfl) (fun _ => by kernel_rfl) ?_
 refine T.pure (.int .i64 r7.2) (by kernel_rfl) (fun _ => by kernel_rfl) ?_
 refine T.nil ?_
 refine T.seq ?_
 refine T.region ?_
 refine T.pure (.slice A3 p0.length (p0.length + 3)) (by kernel_rfl) (fun _ => by kernel_rfl) ?_
 refine T.pure (.slice A2 p4.length c2) (by kernel_rfl) (fun _ => by kernel_rfl) ?_
 obtain ⟨r9, hb6, hF⟩ := Option.bind_eq_some_iff.1 hF
 refine T.step (W1.callG 9 #[.slice A3 p0.length (p0.length + 3), .slice A2 p4.length c2] (fun p : Option Addr × Nat => .tuple #[.slice p.1 r9.1.length p.2, .int .i64 r9.2]) (fun p => [row 28 eElem p.1 p.2 r9.1]) (fun _ => True) (by kernel_rfl) (fun _ => by kernel_rfl) (fun w' hh => prune_Kept_l F p0 p4 r9 hb6 w' A3 (p0.length + 3) (SlOk.cut0 (hh.row_slOk (i := 3) (by rfl)) (lslice_app p0 _)) A2 c2 (SlOk.mono (SlOk.mono hs2 hV1) hh.view)) ?_)
 rintro ⟨A7, c6⟩ _
 refine T.reH (H' := [row 28 eElem A7 c6 r9.1, row 28 eElem A6 c5 r7.1, row 28 eElem A5 c4 r5.1, row 28 eElem A4 c3 r3.1, row 28 eElem A3 (p0.length + 3) (p0 ++ [r1, r1, r1]), box b1 24 [.int .i64 p1.pfs, .int .i64 p1.obj, .int .i64 p1.off]]) (by rfl) ?_
 refine T.pure (.tuple #[.slice A7 r9.1.length c6, .int .i64 r9.2]) (by kernel_rfl) (fun _ => by kernel_rfl) ?_
 refine T.pure (.slice A7 r9.1.length c6) (by kernel_rfl) (fun _ => by kernel_rfl) ?_
 refine T.pure (.int .i64 r9.2) (by kernel_rfl) (fun _ => by kernel_rfl) ?_
 refine T.pure (.slice A7 r9.1.length c6) (by kernel_rfl) (fun _ => by kernel_rfl) ?_
 refine T.pure (.int .i64 r9.2) (by kernel_rfl) (fun _ => by kernel_rfl) ?_
 refine T.nil ?_
 refine T.seq ?_
 obtain ⟨z1, hX1, hF⟩ := Option.bind_eq_some_iff.1 hF
 refine T.cut (fun a w' => ∃ (V2 : View), View.le V1 V2 ∧ Fr 119 [(11, .slice A3 p0.length (p0.length + 3)), (12, .slice A4 r3.1.length c3), (14, .slice A5 r5.1.length c4), (16, .slice A6 r7.1.length c5), (18, .slice A7 r9.1.length c6), (68, .bool z1)] a ∧ Hp w V2 [row 28 eElem A7 c6 r9.1, row 28 eElem A6 c5 r7.1, row 28 eElem A5 c4 r5.1, row 28 eElem A4 c3 r3.1, row 28 eElem A3 (p0.length + 3) (p0 ++ [r1, r1, r1])] w') ?_ ?_
 ·
  refine T.region ?_
  refine T.pure (.slice A3 p0.length (p0.length + 3)) (by kernel_rfl) (fun _ => by kernel_rfl) ?_
  refine T.pure (.slice A1 p0.length c1) (by kernel_rfl) (fun _ => by kernel_rfl) ?_
  obtain ⟨r11, hb7, hX1⟩ := Option.bind_eq_some_iff.1 hX1
  refine T.step (W1.call (vSc eBool) r11 10 #[.slice A3 p0.length (p0.length + 3), .slice A1 p0.length c1] (by kernel_rfl) (fun _ => by kernel_rfl) (fun w' hh => slices_Equal_Elem_l F p0 p0 r11 hb7 w' A3 (p0.length + 3) (SlOk.cut0 (hh.row_slOk (i := 4) (by rfl)) (lslice_app p0 _)) A1 c1 (SlOk.mono (SlOk.mono hs1 hV1) hh.view)) ?_)
  intro u V3 hV3 hu
  obtain rfl := sureBool _ _ _ hu
  refine T.pure (.bool (!r11)) (by kernel_rfl) (fun _ => by kernel_rfl) ?_
  refine T.pure (.bool (!r11)) (by kernel_rfl) (fun _ => by kernel_rfl) ?_
  cases hg1 : (!r11)
  ·
   skip
   rw [hg1, cond_false] at hX1
   refine T.pure (.slice A3 p0.length (p0.length + 3)) (by kernel_rfl) (fun _ => by kernel_rfl) ?_
   refine T.step (W1.callI 11 [.slice A3 p0.length (p0.length + 3)] (fun v w' => v = .bool true ∧ ∃ V4, View.le V3 V4 ∧ Hp w V4 [row 28 eElem A3 (p0.length + 3) (p0 ++ [r1, r1, r1]), row 28 eElem A7 c6 r9.1, row 28 eElem A6 c5 r7.1, row 28 eElem A5 c4 r5.1, row 28 eElem A4 c3 r3.1, box b1 24 [.int .i64 p1.pfs, .int .i64 p1.obj, .int .i64 p1.off]] w') (by kernel_rfl) (fun _ => by kernel_rfl) (fun w' hh => (own_marked hb1 (hh.perm (List.Perm.trans (List.Perm.cons _ (List.Perm.cons _ (List.Perm.cons _ (List.Perm.swap _ _ _)))) (List.Perm.trans (List.Perm.cons _ (List.Perm.cons _ (List.Perm.swap _ _ _))) (List.Perm.trans (List.Perm.cons _ (List.Perm.swap _ _ _)) (List.Perm.trans (List.Perm.swap _ _ _) (List.Perm.refl _))))))).mono (by rintro e_ w_ ⟨rfl, h_⟩; exact ⟨_, rfl, rfl, h_⟩)) ?_)
   rintro v w' ⟨rfl, V4, hV4, hh⟩
   refine ⟨V4, [row 28 eElem A7 c6 r9.1, row 28 eElem A6 c5 r7.1, row 28 eElem A5 c4 r5.1, row 28 eElem A4 c3 r3.1, row 28 eElem A3 (p0.length + 3) (p0 ++ [r1, r1, r1]), box b1 24 [.int .i64 p1.pfs, .int .i64 p1.obj, .int .i64 p1.off]], hh.perm (List.Perm.trans (List.Perm.swap _ _ _) (List.Perm.cons _ (List.Perm.trans (List.Perm.swap _ _ _) (List.Perm.cons _ (List.Perm.trans (List.Perm.swap _ _ _) (List.Perm.cons _ (List.Perm.trans (List.Perm.swap _ _ _) (List.Perm.refl _)))))))), ?_⟩
   clear hh
   refine T.pure (.bool false) (by kernel_rfl) (fun _ => by kernel_rfl) ?_
   refine T.pure (.bool false) (by kernel_rfl) (fun _ => by kernel_rfl) ?_
   refine T.nil ?_
   cases hX1
   exact fun a w' hf hh => Exists.intro V4 (And.intro (View.le_trans hV3 hV4) (And.intro (((((((Fr.nil hf).pick hf 68 rfl).pick hf 18 rfl).pick hf 16 rfl).pick hf 14 rfl).pick hf 12 rfl).pick hf 11 rfl) (hh.sub (.cons_cons _ (.cons_cons _ (.cons_cons _ (.cons_cons _ (.cons_cons _ (.cons _ List.Sublist.slnil)))))))))
  ·
   skip
   rw [hg1, cond_true] at hX1
   refine T.pass (by kernel_rfl) (by kernel_rfl) ?_
   refine T.pass (by kernel_rfl) (by kernel_rfl) ?_
   refine T.pass (by kernel_rfl) (by kernel_rfl) ?_
   refine T.pure (.bool true) (by kernel_rfl) (fun _ => by kernel_rfl) ?_
   refine T.nil ?_
   cases hX1
   exact fun a w' hf hh => Exists.intro V3 (And.intro hV3 (And.intro (((((((Fr.nil hf).pick hf 68 rfl).pick hf 18 rfl).pick hf 16 rfl).pick hf 14 rfl).pick hf 12 rfl).pick hf 11 rfl) (hh.sub (.cons_cons _ (.cons_cons _ (.cons_cons _ (.cons_cons _ (.cons_cons _ (.cons _ List.Sublist.slnil)))))))))
 ·
  rintro a w' ⟨V2, hV2, hf, hh⟩
  refine (?_ : T 119 w V2 [row 28 eElem A7 c6 r9.1, row 28 eElem A6 c5 r7.1, row 28 eElem A5 c4 r5.1, row 28 eElem A4 c3 r3.1, row 28 eElem A3 (p0.length + 3) (p0 ++ [r1, r1, r1])] [(11, .slice A3 p0.length (p0.length + 3)), (12, .slice A4 r3.1.length c3), (14, .slice A5 r5.1.length c4), (16, .slice A6 r7.1.length c5), (18, .slice A7 r9.1.length c6), (68, .bool z1)] _) a w' hf hh
  clear hf hh
  refine T.cond z1 (by kernel_rfl) (by kernel_rfl) (fun hc1 => ?_) (fun hc1 => ?_)
  ·
   rw [hc1, cond_true] at hF
   refine T.seq ?_
   refine T.region ?_
   refine T.pure (.bool false) (by kernel_rfl) (fun _ => by kernel_rfl) ?_
   refine T.nil ?_
   cases hF
   refine T.ret rfl ?_
   exact T.ret1 rfl (ResIs.tmp rfl) fun w' hh => ⟨_, rfl, hh.below, (show _ from rfl)⟩
  ·
   rw [hc1, cond_false] at hF
   refine T.skip_code ?_
   refine T.seq ?_
   refine T.region ?_
   refine T.pure (.slice A4 r3.1.length c3) (by kernel_rfl) (fun _ => by kernel_rfl) ?_
   refine T.pure (.slice A5 r5.1.length c4) (by kernel_rfl) (fun _ => by kernel_rfl) ?_
   refine T.pure (.slice A6 r7.1.length c5) (by kernel_rfl) (fun _ => by kernel_rfl) ?_
   refine T.pure (.slice A7 r9.1.length c6) (by kernel_rfl) (fun _ => by kernel_rfl) ?_
   refine T.step (W1.new 22 [.slice A4 r3.1.length c3, .slice A5 r5.1.length c4, .slice A6 r7.1.length c5, .slice A7 r9.1.length c6] (fun b => .slice (some ⟨b, 0, none⟩) 4 4) (by kernel_rfl) (fun _ => by kernel_rfl) (fun b2 => ?_))
   refine T.pure (.slice (some ⟨b2, 0, none⟩) 4 4) (by kernel_rfl) (fun _ => by kernel_rfl) ?_
   refine T.nil ?_
   refine T.seq ?_
   refine T.region ?_
   refine T.pure (.slice none 0 0) (by kernel_rfl) (fun _ => by kernel_rfl) ?_
   refine T.nil ?_
   refine T.seq ?_
   refine T.seq ?_
   refine T.region ?_
   refine T.pure (.slice (some ⟨b2, 0, none⟩) 4 4) (by kernel_rfl) (fun _ => by kernel_rfl) ?_
   refine T.pure (.int .i64 4) (by kernel_rfl) (fun _ => by kernel_rfl) ?_
   refine T.pure (.int .i64 0) (by kernel_rfl) (fun _ => by kernel_rfl) ?_
   refine T.nil ?_
   refine T.block ?_
   refine T.rounds 5 ?_
   refine T.round ?_
   refine T.seq ?_
   refine T.region ?_
   refine T.pure (.bool true) (by kernel_rfl) (fun _ => by kernel_rfl) ?_
   refine T.nil ?_
   refine T.seq ?_
   refine T.cond true (by kernel_rfl) (by kernel_rfl) (fun _ => ?_) (fun h => Bool.noConfusion h)
   refine T.skip_code ?_
   refine T.seq ?_
   refine T.block ?_
   refine T.seq ?_
   refine T.region ?_
   refine T.pure (.pointer (some ⟨b2, 0, none⟩)) (by kernel_rfl) (fun _ => by kernel_rfl) ?_
   refine T.look (.slice A4 r3.1.length c3) (by kernel_rfl) (fun w' hh => exec_load1 rfl rfl (by kernel_rfl) (hh.cellBox (i := 0) (by rfl) 0)) ?_
   refine T.pure (.slice A4 r3.1.length c3) (by kernel_rfl) (fun _ => by kernel_rfl) ?_
   refine T.nil ?_
   refine T.region ?_
   refine T.pure (.slice none 0 0) (by kernel_rfl) (fun _ => by kernel_rfl) ?_
   refine T.pure (.slice A4 r3.1.length c3) (by kernel_rfl) (fun _ => by kernel_rfl) ?_
   obtain ⟨y1, hb8, hF⟩ := Option.bind_eq_some_iff.1 hF
   obtain ⟨hb8_r, hb8_m, _⟩ := grow_some hb8
   refine T.step (W1.callI 12 [.slice A4 r3.1.length c3] (fun v w' => ∃ (A8 : Option Addr) (c7 : Nat), v = .slice A8 r3.1.length c7 ∧ Hp w V2 [row 28 eElem A8 c7 r3.1, box b2 22 [.slice A4 r3.1.length c3, .slice A5 r5.1.length c4, .slice A6 r7.1.length c5, .slice A7 r9.1.length c6], row 28 eElem A7 c6 r9.1, row 28 eElem A6 c5 r7.1, row 28 eElem A5 c4 r5.1, row 28 eElem A4 c3 r3.1, row 28 eElem A3 (p0.length + 3) (p0 ++ [r1, r1, r1])] w') (by kernel_rfl) (fun _ => by kernel_rfl) (fun w' hh => (own_clone_Elem w V2 [box b2 22 [.slice A4 r3.1.length c3, .slice A5 r5.1.length c4, .slice A6 r7.1.length c5, .slice A7 r9.1.length c6], row 28 eElem A7 c6 r9.1, row 28 eElem A6 c5 r7.1, row 28 eElem A5 c4 r5.1, row 28 eElem A4 c3 r3.1, row 28 eElem A3 (p0.length + 3) (p0 ++ [r1, r1, r1])] w' _ _ _ (fun w' hh => (hh.row_slOk (i := 4) (by rfl))) (by simpa using hb8_r) (by simpa using hb8_m) hh).mono (by rintro e_ w_ ⟨A_, c_, rfl, h_⟩; exact ⟨_, rfl, A_, c_, rfl, h_⟩)) ?_)
   rintro v w' ⟨A8, c7, rfl, hh⟩
   refine ⟨V2, [row 28 eElem A8 c7 r3.1, box b2 22 [.slice A4 r3.1.length c3, .slice A5 r5.1.length c4, .slice A6 r7.1.length c5, .slice A7 r9.1.length c6], row 28 eElem A7 c6 r9.1, row 28 eElem A6 c5 r7.1, row 28 eElem A5 c4 r5.1, row 28 eElem A4 c3 r3.1, row 28 eElem A3 (p0.length + 3) (p0 ++ [r1, r1, r1])], hh, ?_⟩
   clear hh
   refine T.step (W1.new 22 [.slice A8 r3.1.length c7] (fun b => .slice (some ⟨b, 0, none⟩) 1 1) (by kernel_rfl) (fun _ => by kernel_rfl) (fun b3 => ?_))
   refine T.rownil 22 eSl ?_
   obtain ⟨ti, hti, hz1, hz2, hz3⟩ := info_parts (P := Try.prog) (e := 22) (z := .slice none 0 0) (size := 1) (bytes := 24) (by kernel_rfl)
   refine T.step (W1.append (E := eSl) (l := ([] : List (Option Addr × Nat × Nat))) (m := [(A8, r3.1.length, c7)]) 0 _ _ 24 ti _ (by rfl) (by kernel_rfl) rfl (by kernel_rfl) hti hz1 hz2 hz3 rfl (by decide) rfl rfl (fun w' hh => (SlOk.srcF (slok_lit (E := eSl) (f := fun p => [.slice p.1 p.2.1 p.2.2]) [(A8, r3.1.length, c7)] (fun _ _ => rfl) (Nat.le_of_ble_eq_true (by rfl)) (fun j => hh.cellBox (i := 1) (by rfl) j)) (fun _ _ _ _ h => h))) (by rfl) (Nat.le_of_ble_eq_true (by rfl)) (fun A9 c8 => ?_))
   refine T.pure (.slice A9 ((([] : List (Option Addr × Nat × Nat)) ++ [(A8, r3.1.length, c7)]).length) c8) (by kernel_rfl) (fun _ => by kernel_rfl) ?_
   refine T.nil ?_
   refine T.region ?_
   refine T.pure (.int .i64 1) (by kernel_rfl) (fun _ => by kernel_rfl) ?_
   refine T.pure (.int .i64 1) (by kernel_rfl) (fun _ => by kernel_rfl) ?_
   refine T.nil ?_
   refine T.round ?_
   refine T.seq ?_
   refine T.region ?_
   refine T.pure (.bool true) (by kernel_rfl) (fun _ => by kernel_rfl) ?_
   refine T.nil ?_
   refine T.seq ?_
   refine T.cond true (by kernel_rfl) (by kernel_rfl) (fun _ => ?_) (fun h => Bool.noConfusion h)
   refine T.skip_code ?_
   refine T.seq ?_
   refine T.block ?_
   refine T.seq ?_
   refine T.region ?_
   refine T.pure (.pointer (some ⟨b2, 1, none⟩)) (by kernel_rfl) (fun _ => by kernel_rfl) ?_
   refine T.look (.slice A5 r5.1.length c4) (by kernel_rfl) (fun w' hh => exec_load1 rfl rfl (by kernel_rfl) (hh.cellBox (i := 3) (by rfl) 1)) ?_
   refine T.pure (.slice A5 r5.1.length c4) (by kernel_rfl) (fun _ => by kernel_rfl) ?_
   refine T.nil ?_
   refine T.region ?_
   refine T.pure (.slice A9 ((([] : List (Option Addr × Nat × Nat)) ++ [(A8, r3.1.length, c7)]).length) c8) (by kernel_rfl) (fun _ => by kernel_rfl) ?_
   refine T.pure (.slice A5 r5.1.length c4) (by kernel_rfl) (fun _ => by kernel_rfl) ?_
   obtain ⟨y2, hb9, hF⟩ := Option.bind_eq_some_iff.1 hF
   obtain ⟨hb9_r, hb9_m, _⟩ := grow_some hb9
   refine T.step (W1.callI 12 [.slice A5 r5.1.length c4] (fun v w' => ∃ (A10 : Option Addr) (c9 : Nat), v = .slice A10 r5.1.length c9 ∧ Hp w V2 [row 28 eElem A10 c9 r5.1, row 22 eSl A9 c8 (([] : List (Option Addr × Nat × Nat)) ++ [(A8, r3.1.length, c7)]), box b3 22 [.slice A8 r3.1.length c7], row 28 eElem A8 c7 r3.1, box b2 22 [.slice A4 r3.1.length c3, .slice A5 r5.1.length c4, .slice A6 r7.1.length c5, .slice A7 r9.1.length c6], row 28 eElem A7 c6 r9.1, row 28 eElem A6 c5 r7.1, row 28 eElem A5 c4 r5.1, row 28 eElem A4 c3 r3.1, row 28 eElem A3 (p0.length + 3) (p0 ++ [r1, r1, r1])] w') (by kernel_rfl) (fun _ => by kernel_rfl) (fun w' hh => (own_clone_Elem w V2 [row 22 eSl A9 c8 (([] : List (Option Addr × Nat × Nat)) ++ [(A8, r3.1.length, c7)]), box b3 22 [.slice A8 r3.1.length c7], row 28 eElem A8 c7 r3.1, box b2 22 [.slice A4 r3.1.length c3, .slice A5 r5.1.length c4, .slice A6 r7.1.length c5, .slice A7 r9.1.length c6], row 28 eElem A7 c6 r9.1, row 28 eElem A6 c5 r7.1, row 28 eElem A5 c4 r5.1, row 28 eElem A4 c3 r3.1, row 28 eElem A3 (p0.length + 3) (p0 ++ [r1, r1, r1])] w' _ _ _ (fun w' hh => (hh.row_slOk (i := 6) (by rfl))) (by simpa using hb9_r) (by simpa using hb9_m) hh).mono (by rintro e_ w_ ⟨A_, c_, rfl, h_⟩; exact ⟨_, rfl, A_, c_, rfl, h_⟩)) ?_)
   rintro v w' ⟨A10, c9, rfl, hh⟩
   refine ⟨V2, [row 28 eElem A10 c9 r5.1, row 22 eSl A9 c8 (([] : List (Option Addr × Nat × Nat)) ++ [(A8, r3.1.length, c7)]), box b3 22 [.slice A8 r3.1.length c7], row 28 eElem A8 c7 r3.1, box b2 22 [.slice A4 r3.1.length c3, .slice A5 r5.1.length c4, .slice A6 r7.1.length c5, .slice A7 r9.1.length c6], row 28 eElem A7 c6 r9.1, row 28 eElem A6 c5 r7.1, row 28 eElem A5 c4 r5.1, row 28 eElem A4 c3 r3.1, row 28 eElem A3 (p0.length + 3) (p0 ++ [r1, r1, r1])], hh, ?_⟩
   clear hh
   refine T.step (W1.new 22 [.slice A10 r5.1.length c9] (fun b => .slice (some ⟨b, 0, none⟩) 1 1) (by kernel_rfl) (fun _ => by kernel_rfl) (fun b4 => ?_))
   obtain ⟨ti, hti, hz1, hz2, hz3⟩ := info_parts (P := Try.prog) (e := 22) (z := .slice none 0 0) (size := 1) (bytes := 24) (by kernel_rfl)
   refine T.step (W1.append (E := eSl) (l := (([] : List (Option Addr × Nat × Nat)) ++ [(A8, r3.1.length, c7)])) (m := [(A10, r5.1.length, c9)]) 2 _ _ 24 ti _ (by rfl) (by kernel_rfl) rfl (by kernel_rfl) hti hz1 hz2 hz3 rfl (by decide) rfl rfl (fun w' hh => (SlOk.srcF (slok_lit (E := eSl) (f := fun p => [.slice p.1 p.2.1 p.2.2]) [(A10, r5.1.length, c9)] (fun _ _ => rfl) (Nat.le_of_ble_eq_true (by rfl)) (fun j => hh.cellBox (i := 0) (by rfl) j)) (fun _ _ _ _ h => h))) (by rfl) (Nat.le_of_ble_eq_true (by rfl)) (fun A11 c10 => ?_))
   refine T.pure (.slice A11 (((([] : List (Option Addr × Nat × Nat)) ++ [(A8, r3.1.length, c7)]) ++ [(A10, r5.1.length, c9)]).length) c10) (by kernel_rfl) (fun _ => by kernel_rfl) ?_
   refine T.nil ?_
   refine T.region ?_
   refine T.pure (.int .i64 2) (by kernel_rfl) (fun _ => by kernel_rfl) ?_
   refine T.pure (.int .i64 2) (by kernel_rfl) (fun _ => by kernel_rfl) ?_
   refine T.nil ?_
   refine T.round ?_
   refine T.seq ?_
   refine T.region ?_
   refine T.pure (.bool true) (by kernel_rfl) (fun _ => by kernel_rfl) ?_
   refine T.nil ?_
   refine T.seq ?_
   refine T.cond true (by kernel_rfl) (by kernel_rfl) (fun _ => ?_) (fun h => Bool.noConfusion h)
   refine T.skip_code ?_
   refine T.seq ?_
   refine T.block ?_
   refine T.seq ?_
   refine T.region ?_
   refine T.pure (.pointer (some ⟨b2, 2, none⟩)) (by kernel_rfl) (fun _ => by kernel_rfl) ?_
   refine T.look (.slice A6 r7.1.length c5) (by kernel_rfl) (fun w' hh => exec_load1 rfl rfl (by kernel_rfl) (hh.cellBox (i := 5) (by rfl) 2)) ?_
   refine T.pure (.slice A6 r7.1.length c5) (by kernel_rfl) (fun _ => by kernel_rfl) ?_
   refine T.nil ?_
   refine T.region ?_
   refine T.pure (.slice A11 (((([] : List (Option Addr × Nat × Nat)) ++ [(A8, r3.1.length, c7)]) ++ [(A10, r5.1.length, c9)]).length) c10) (by kernel_rfl) (fun _ => by kernel_rfl) ?_
   refine T.pure (.slice A6 r7.1.length c5) (by kernel_rfl) (fun _ => by kernel_rfl) ?_
   obtain ⟨y3, hb10, hF⟩ := Option.bind_eq_some_iff.1 hF
   obtain ⟨hb10_r, hb10_m, _⟩ := grow_some hb10
   refine T.step (W1.callI 12 [.slice A6 r7.1.length c5] (fun v w' => ∃ (A12 : Option Addr) (c11 : Nat), v = .slice A12 r7.1.length c11 ∧ Hp w V2 [row 28 eElem A12 c11 r7.1, box b4 22 [.slice A10 r5.1.length c9], row 28 eElem A10 c9 r5.1, row 22 eSl A11 c10 ((([] : List (Option Addr × Nat × Nat)) ++ [(A8, r3.1.length, c7)]) ++ [(A10, r5.1.length, c9)]), box b3 22 [.slice A8 r3.1.length c7], row 28 eElem A8 c7 r3.1, box b2 22 [.slice A4 r3.1.length c3, .slice A5 r5.1.length c4, .slice A6 r7.1.length c5, .slice A7 r9.1.length c6], row 28 eElem A7 c6 r9.1, row 28 eElem A6 c5 r7.1, row 28 eElem A5 c4 r5.1, row 28 eElem A4 c3 r3.1, row 28 eElem A3 (p0.length + 3) (p0 ++ [r1, r1, r1])] w') (by kernel_rfl) (fun _ => by kernel_rfl) (fun w' hh => (own_clone_Elem w V2 [box b4 22 [.slice A10 r5.1.length c9], row 28 eElem A10 c9 r5.1, row 22 eSl A11 c10 ((([] : List (Option Addr × Nat × Nat)) ++ [(A8, r3.1.length, c7)]) ++ [(A10, r5.1.length, c9)]), box b3 22 [.slice A8 r3.1.length c7], row 28 eElem A8 c7 r3.1, box b2 22 [.slice A4 r3.1.length c3, .slice A5 r5.1.length c4, .slice A6 r7.1.length c5, .slice A7 r9.1.length c6], row 28 eElem A7 c6 r9.1, row 28 eElem A6 c5 r7.1, row 28 eElem A5 c4 r5.1, row 28 eElem A4 c3 r3.1, row 28 eElem A3 (p0.length + 3) (p0 ++ [r1, r1, r1])] w' _ _ _ (fun w' hh => (hh.row_slOk (i := 7) (by rfl))) (by simpa using hb10_r) (by simpa using hb10_m) hh).mono (by rintro e_ w_ ⟨A_, c_, rfl, h_⟩; exact ⟨_, rfl, A_, c_, rfl, h_⟩)) ?_)
   rintro v w' ⟨A12, c11, rfl, hh⟩
   refine ⟨V2, [row 28 eElem A12 c11 r7.1, box b4 22 [.slice A10 r5.1.length c9], row 28 eElem A10 c9 r5.1, row 22 eSl A11 c10 ((([] : List (Option Addr × Nat × Nat)) ++ [(A8, r3.1.length, c7)]) ++ [(A10, r5.1.length, c9)]), box b3 22 [.slice A8 r3.1.length c7], row 28 eElem A8 c7 r3.1, box b2 22 [.slice A4 r3.1.length c3, .slice A5 r5.1.length c4, .slice A6 r7.1.length c5, .slice A7 r9.1.length c6], row 28 eElem A7 c6 r9.1, row 28 eElem A6 c5 r7.1, row 28 eElem A5 c4 r5.1, row 28 eElem A4 c3 r3.1, row 28 eElem A3 (p0.length + 3) (p0 ++ [r1, r1, r1])], hh, ?_⟩
   clear hh
   refine T.step (W1.new 22 [.slice A12 r7.1.length c11] (fun b => .slice (some ⟨b, 0, none⟩) 1 1) (by kernel_rfl) (fun _ => by kernel_rfl) (fun b5 => ?_))
   obtain ⟨ti, hti, hz1, hz2, hz3⟩ := info_parts (P := Try.prog) (e := 22) (z := .slice none 0 0) (size := 1) (bytes := 24) (by kernel_rfl)
   refine T.step (W1.append (E := eSl) (l := ((([] : List (Option Addr × Nat × Nat)) ++ [(A8, r3.1.length, c7)]) ++ [(A10, r5.1.length, c9)])) (m := [(A12, r7.1.length, c11)]) 4 _ _ 24 ti _ (by rfl) (by kernel_rfl) rfl (by kernel_rfl) hti hz1 hz2 hz3 rfl (by decide) rfl rfl (fun w' hh => (SlOk.srcF (slok_lit (E := eSl) (f := fun p => [.slice p.1 p.2.1 p.2.2]) [(A12, r7.1.length, c11)] (fun _ _ => rfl) (Nat.le_of_ble_eq_true (by rfl)) (fun j => hh.cellBox (i := 0) (by rfl) j)) (fun _ _ _ _ h => h))) (by rfl) (Nat.le_of_ble_eq_true (by rfl)) (fun A13 c12 => ?_))
   refine T.pure (.slice A13 ((((([] : List (Option Addr × Nat × Nat)) ++ [(A8, r3.1.length, c7)]) ++ [(A10, r5.1.length, c9)]) ++ [(A12, r7.1.length, c11)]).length) c12) (by kernel_rfl) (fun _ => by kernel_rfl) ?_
   refine T.nil ?_
   refine T.region ?_
   refine T.pure (.int .i64 3) (by kernel_rfl) (fun _ => by kernel_rfl) ?_
   refine T.pure (.int .i64 3) (by kernel_rfl) (fun _ => by kernel_rfl) ?_
   refine T.nil ?_
   refine T.round ?_
   refine T.seq ?_
   refine T.region ?_
   refine T.pure (.bool true) (by kernel_rfl) (fun _ => by kernel_rfl) ?_
   refine T.nil ?_
   refine T.seq ?_
   refine T.cond true (by kernel_rfl) (by kernel_rfl) (fun _ => ?_) (fun h => Bool.noConfusion h)
   refine T.skip_code ?_
   refine T.seq ?_
   refine T.block ?_
   refine T.seq ?_
   refine T.region ?_
   refine T.pure (.pointer (some ⟨b2, 3, none⟩)) (by kernel_rfl) (fun _ => by kernel_rfl) ?_
   refine T.look (.slice A7 r9.1.length c6) (by kernel_rfl) (fun w' hh => exec_load1 rfl rfl (by kernel_rfl) (hh.cellBox (i := 7) (by rfl) 3)) ?_
   refine T.pure (.slice A7 r9.1.length c6) (by kernel_rfl) (fun _ => by kernel_rfl) ?_
   refine T.nil ?_
   refine T.region ?_
   refine T.pure (.slice A13 ((((([] : List (Option Addr × Nat × Nat)) ++ [(A8, r3.1.length, c7)]) ++ [(A10, r5.1.length, c9)]) ++ [(A12, r7.1.length, c11)]).length) c12) (by kernel_rfl) (fun _ => by kernel_rfl) ?_
   refine T.pure (.slice A7 r9.1.length c6) (by kernel_rfl) (fun _ => by kernel_rfl) ?_
   obtain ⟨y4, hb11, hF⟩ := Option.bind_eq_some_iff.1 hF
   obtain ⟨hb11_r, hb11_m, _⟩ := grow_some hb11
   refine T.step (W1.callI 12 [.slice A7 r9.1.length c6] (fun v w' => ∃ (A14 : Option Addr) (c13 : Nat), v = .slice A14 r9.1.length c13 ∧ Hp w V2 [row 28 eElem A14 c13 r9.1, box b5 22 [.slice A12 r7.1.length c11], row 28 eElem A12 c11 r7.1, box b4 22 [.slice A10 r5.1.length c9], row 28 eElem A10 c9 r5.1, row 22 eSl A13 c12 (((([] : List (Option Addr × Nat × Nat)) ++ [(A8, r3.1.length, c7)]) ++ [(A10, r5.1.length, c9)]) ++ [(A12, r7.1.length, c11)]), box b3 22 [.slice A8 r3.1.length c7], row 28 eElem A8 c7 r3.1, box b2 22 [.slice A4 r3.1.length c3, .slice A5 r5.1.length c4, .slice A6 r7.1.length c5, .slice A7 r9.1.length c6], row 28 eElem A7 c6 r9.1, row 28 eElem A6 c5 r7.1, row 28 eElem A5 c4 r5.1, row 28 eElem A4 c3 r3.1, row 28 eElem A3 (p0.length + 3) (p0 ++ [r1, r1, r1])] w') (by kernel_rfl) (fun _ => by kernel_rfl) (fun w' hh => (own_clone_Elem w V2 [box b5 22 [.slice A12 r7.1.length c11], row 28 eElem A12 c11 r7.1, box b4 22 [.slice A10 r5.1.length c9], row 28 eElem A10 c9 r5.1, row 22 eSl A13 c12 (((([] : List (Option Addr × Nat × Nat)) ++ [(A8, r3.1.length, c7)]) ++ [(A10, r5.1.length, c9)]) ++ [(A12, r7.1.length, c11)]), box b3 22 [.slice A8 r3.1.length c7], row 28 eElem A8 c7 r3.1, box b2 22 [.slice A4 r3.1.length c3, .slice A5 r5.1.length c4, .slice A6 r7.1.length c5, .slice A7 r9.1.length c6], row 28 eElem A7 c6 r9.1, row 28 eElem A6 c5 r7.1, row 28 eElem A5 c4 r5.1, row 28 eElem A4 c3 r3.1, row 28 eElem A3 (p0.length + 3) (p0 ++ [r1, r1, r1])] w' _ _ _ (fun w' hh => (hh.row_slOk (i := 8) (by rfl))) (by simpa using hb11_r) (by simpa using hb11_m) hh).mono (by rintro e_ w_ ⟨A_, c_, rfl, h_⟩; exact ⟨_, rfl, A_, c_, rfl, h_⟩)) ?_)
   rintro v w' ⟨A14, c13, rfl, hh⟩
   refine ⟨V2, [row 28 eElem A14 c13 r9.1, box b5 22 [.slice A12 r7.1.length c11], row 28 eElem A12 c11 r7.1, box b4 22 [.slice A10 r5.1.length c9], row 28 eElem A10 c9 r5.1, row 22 eSl A13 c12 (((([] : List (Option Addr × Nat × Nat)) ++ [(A8, r3.1.length, c7)]) ++ [(A10, r5.1.length, c9)]) ++ [(A12, r7.1.length, c11)]), box b3 22 [.slice A8 r3.1.length c7], row 28 eElem A8 c7 r3.1, box b2 22 [.slice A4 r3.1.length c3, .slice A5 r5.1.length c4, .slice A6 r7.1.length c5, .slice A7 r9.1.length c6], row 28 eElem A7 c6 r9.1, row 28 eElem A6 c5 r7.1, row 28 eElem A5 c4 r5.1, row 28 eElem A4 c3 r3.1, row 28 eElem A3 (p0.length + 3) (p0 ++ [r1, r1, r1])], hh, ?_⟩
   clear hh
   refine T.step (W1.new 22 [.slice A14 r9.1.length c13] (fun b => .slice (some ⟨b, 0, none⟩) 1 1) (by kernel_rfl) (fun _ => by kernel_rfl) (fun b6 => ?_))
   obtain ⟨ti, hti, hz1, hz2, hz3⟩ := info_parts (P := Try.prog) (e := 22) (z := .slice none 0 0) (size := 1) (bytes := 24) (by kernel_rfl)
   refine T.step (W1.append (E := eSl) (l := (((([] : List (Option Addr × Nat × Nat)) ++ [(A8, r3.1.length, c7)]) ++ [(A10, r5.1.length, c9)]) ++ [(A12, r7.1.length, c11)])) (m := [(A14, r9.1.length, c13)]) 6 _ _ 24 ti _ (by rfl) (by kernel_rfl) rfl (by kernel_rfl) hti hz1 hz2 hz3 rfl (by decide) rfl rfl (fun w' hh => (SlOk.srcF (slok_lit (E := eSl) (f := fun p => [.slice p.1 p.2.1 p.2.2]) [(A14, r9.1.length, c13)] (fun _ _ => rfl) (Nat.le_of_ble_eq_true (by rfl)) (fun j => hh.cellBox (i := 0) (by rfl) j)) (fun _ _ _ _ h => h))) (by rfl) (Nat.le_of_ble_eq_true (by rfl)) (fun A15 c14 => ?_))
   refine T.pure (.slice A15 (((((([] : List (Option Addr × Nat × Nat)) ++ [(A8, r3.1.length, c7)]) ++ [(A10, r5.1.length, c9)]) ++ [(A12, r7.1.length, c11)]) ++ [(A14, r9.1.length, c13)]).length) c14) (by kernel_rfl) (fun _ => by kernel_rfl) ?_
   refine T.nil ?_
   refine T.region ?_
   refine T.pure (.int .i64 4) (by kernel_rfl) (fun _ => by kernel_rfl) ?_
   refine T.pure (.int .i64 4) (by kernel_rfl) (fun _ => by kernel_rfl) ?_
   refine T.nil ?_
   refine T.round ?_
   refine T.seq ?_
   refine T.region ?_
   refine T.pure (.bool false) (by kernel_rfl) (fun _ => by kernel_rfl) ?_
   refine T.nil ?_
   refine T.seq ?_
   refine T.cond false (by kernel_rfl) (by kernel_rfl) (fun h => Bool.noConfusion h) (fun _ => ?_)
   refine T.exit ?_
   refine T.seq ?_
   refine T.region ?_
   refine T.pure (.slice A3 p0.length (p0.length + 3)) (by kernel_rfl) (fun _ => by kernel_rfl) ?_
   refine T.pure (.agg #[.int .i64 0, .int .i64 0, .int .i64 0, .int .i64 5, .int .i64 0, .string (ByteArray.mk #[])]) (by kernel_rfl) (fun _ => by kernel_rfl) ?_
   refine T.step (W1.callI 13 [.slice A3 p0.length (p0.length + 3), .agg #[.int .i64 0, .int .i64 0, .int .i64 0, .int .i64 5, .int .i64 0, .string (ByteArray.mk #[])]] (fun v w' => v = .tuple #[] ∧ Hp w V2 [row 28 eElem A3 (p0.length + 3) (List.replicate (p0.length + 3) (DElem.mk (DKey.mk 0 0 0) 5 0 (ByteArray.mk #[]))), box b6 22 [.slice A14 r9.1.length c13], row 28 eElem A14 c13 r9.1, box b5 22 [.slice A12 r7.1.length c11], row 28 eElem A12 c11 r7.1, box b4 22 [.slice A10 r5.1.length c9], row 28 eElem A10 c9 r5.1, row 22 eSl A15 c14 ((((([] : List (Option Addr × Nat × Nat)) ++ [(A8, r3.1.length, c7)]) ++ [(A10, r5.1.length, c9)]) ++ [(A12, r7.1.length, c11)]) ++ [(A14, r9.1.length, c13)]), box b3 22 [.slice A8 r3.1.length c7], row 28 eElem A8 c7 r3.1, box b2 22 [.slice A4 r3.1.length c3, .slice A5 r5.1.length c4, .slice A6 r7.1.length c5, .slice A7 r9.1.length c6], row 28 eElem A7 c6 r9.1, row 28 eElem A6 c5 r7.1, row 28 eElem A5 c4 r5.1, row 28 eElem A4 c3 r3.1] w') (by kernel_rfl) (fun _ => by kernel_rfl) (fun w' hh => (own_spoil_Elem (n := p0.length) (DElem.mk (DKey.mk 0 0 0) 5 0 (ByteArray.mk #[])) (by omega) (hh.perm (List.Perm.trans (List.Perm.cons _ (List.Perm.cons _ (List.Perm.cons _ (List.Perm.cons _ (List.Perm.cons _ (List.Perm.cons _ (List.Perm.cons _ (List.Perm.cons _ (List.Perm.cons _ (List.Perm.cons _ (List.Perm.cons _ (List.Perm.cons _ (List.Perm.cons _ (List.Perm.swap _ _ _)))))))))))))) (List.Perm.trans (List.Perm.cons _ (List.Perm.cons _ (List.Perm.cons _ (List.Perm.cons _ (List.Perm.cons _ (List.Perm.cons _ (List.Perm.cons _ (List.Perm.cons _ (List.Perm.cons _ (List.Perm.cons _ (List.Perm.cons _ (List.Perm.cons _ (List.Perm.swap _ _ _))))))))))))) (List.Perm.trans (List.Perm.cons _ (List.Perm.cons _ (List.Perm.cons _ (List.Perm.cons _ (List.Perm.cons _ (List.Perm.cons _ (List.Perm.cons _ (List.Perm.cons _ (List.Perm.cons _ (List.Perm.cons _ (List.Perm.cons _ (List.Perm.swap _ _ _)))))))))))) (List.Perm.trans (List.Perm.cons _ (List.Perm.cons _ (List.Perm.cons _ (List.Perm.cons _ (List.Perm.cons _ (List.Perm.cons _ (List.Perm.cons _ (List.Perm.cons _ (List.Perm.cons _ (List.Perm.cons _ (List.Perm.swap _ _ _))))))))))) (List.Perm.trans (List.Perm.cons _ (List.Perm.cons _ (List.Perm.cons _ (List.Perm.cons _ (List.Perm.cons _ (List.Perm.cons _ (List.Perm.cons _ (List.Perm.cons _ (List.Perm.cons _ (List.Perm.swap _ _ _)))))))))) (List.Perm.trans (List.Perm.cons _ (List.Perm.cons _ (List.Perm.cons _ (List.Perm.cons _ (List.Perm.cons _ (List.Perm.cons _ (List.Perm.cons _ (List.Perm.cons _ (List.Perm.swap _ _ _))))))))) (List.Perm.trans (List.Perm.cons _ (List.Perm.cons _ (List.Perm.cons _ (List.Perm.cons _ (List.Perm.cons _ (List.Perm.cons _ (List.Perm.cons _ (List.Perm.swap _ _ _)))))))) (List.Perm.trans (List.Perm.cons _ (List.Perm.cons _ (List.Perm.cons _ (List.Perm.cons _ (List.Perm.cons _ (List.Perm.cons _ (List.Perm.swap _ _ _))))))) (List.Perm.trans (List.Perm.cons _ (List.Perm.cons _ (List.Perm.cons _ (List.Perm.cons _ (List.Perm.cons _ (List.Perm.swap _ _ _)))))) (List.Perm.trans (List.Perm.cons _ (List.Perm.cons _ (List.Perm.cons _ (List.Perm.cons _ (List.Perm.swap _ _ _))))) (List.Perm.trans (List.Perm.cons _ (List.Perm.cons _ (List.Perm.cons _ (List.Perm.swap _ _ _)))) (List.Perm.trans (List.Perm.cons _ (List.Perm.cons _ (List.Perm.swap _ _ _))) (List.Perm.trans (List.Perm.cons _ (List.Perm.swap _ _ _)) (List.Perm.trans (List.Perm.swap _ _ _) (List.Perm.refl _))))))))))))))))).mono (by rintro e_ w_ ⟨rfl, h_⟩; exact ⟨_, rfl, rfl, h_⟩)) ?_)
   rintro v w' ⟨rfl, hh⟩
   refine ⟨V2, [box b6 22 [.slice A14 r9.1.length c13], row 28 eElem A14 c13 r9.1, box b5 22 [.slice A12 r7.1.length c11], row 28 eElem A12 c11 r7.1, box b4 22 [.slice A10 r5.1.length c9], row 28 eElem A10 c9 r5.1, row 22 eSl A15 c14 ((((([] : List (Option Addr × Nat × Nat)) ++ [(A8, r3.1.length, c7)]) ++ [(A10, r5.1.length, c9)]) ++ [(A12, r7.1.length, c11)]) ++ [(A14, r9.1.length, c13)]), box b3 22 [.slice A8 r3.1.length c7], row 28 eElem A8 c7 r3.1, box b2 22 [.slice A4 r3.1.length c3, .slice A5 r5.1.length c4, .slice A6 r7.1.length c5, .slice A7 r9.1.length c6], row 28 eElem A7 c6 r9.1, row 28 eElem A6 c5 r7.1, row 28 eElem A5 c4 r5.1, row 28 eElem A4 c3 r3.1, row 28 eElem A3 (p0.length + 3) (List.replicate (p0.length + 3) (DElem.mk (DKey.mk 0 0 0) 5 0 (ByteArray.mk #[])))], hh.perm (List.Perm.trans (List.Perm.swap _ _ _) (List.Perm.cons _ (List.Perm.trans (List.Perm.swap _ _ _) (List.Perm.cons _ (List.Perm.trans (List.Perm.swap _ _ _) (List.Perm.cons _ (List.Perm.trans (List.Perm.swap _ _ _) (List.Perm.cons _ (List.Perm.trans (List.Perm.swap _ _ _) (List.Perm.cons _ (List.Perm.trans (List.Perm.swap _ _ _) (List.Perm.cons _ (List.Perm.trans (List.Perm.swap _ _ _) (List.Perm.cons _ (List.Perm.trans (List.Perm.swap _ _ _) (List.Perm.cons _ (List.Perm.trans (List.Perm.swap _ _ _) (List.Perm.cons _ (List.Perm.trans (List.Perm.swap _ _ _) (List.Perm.cons _ (List.Perm.trans (List.Perm.swap _ _ _) (List.Perm.cons _ (List.Perm.trans (List.Perm.swap _ _ _) (List.Perm.cons _ (List.Perm.trans (List.Perm.swap _ _ _) (List.Perm.cons _ (List.Perm.trans (List.Perm.swap _ _ _) (List.Perm.refl _)))))))))))))))))))))))))))), ?_⟩
   clear hh
   refine T.nil ?_
   refine T.seq ?_
   refine T.seq ?_
   refine T.region ?_
   refine T.pure (.slice (some ⟨b2, 0, none⟩) 4 4) (by kernel_rfl) (fun _ => by kernel_rfl) ?_
   refine T.pure (.int .i64 4) (by kernel_rfl) (fun _ => by kernel_rfl) ?_
   refine T.pure (.int .i64 0) (by kernel_rfl) (fun _ => by kernel_rfl) ?_
   refine T.nil ?_
   refine T.block ?_
   refine T.rounds 5 ?_
   refine T.round ?_
   refine T.seq ?_
   refine T.region ?_
   refine T.pure (.bool true) (by kernel_rfl) (fun _ => by kernel_rfl) ?_
   refine T.nil ?_
   refine T.seq ?_
   refine T.cond true (by kernel_rfl) (by kernel_rfl) (fun _ => ?_) (fun h => Bool.noConfusion h)
   refine T.skip_code ?_
   refine T.seq ?_
   refine T.block ?_
   refine T.seq ?_
   refine T.region ?_
   refine T.pure (.int .i64 0) (by kernel_rfl) (fun _ => by kernel_rfl) ?_
   refine T.pure (.pointer (some ⟨b2, 0, none⟩)) (by kernel_rfl) (fun _ => by kernel_rfl) ?_
   refine T.look (.slice A4 r3.1.length c3) (by kernel_rfl) (fun w' hh => exec_load1 rfl rfl (by kernel_rfl) (hh.cellBox (i := 9) (by rfl) 0)) ?_
   refine T.pure (.int .i64 0) (by kernel_rfl) (fun _ => by kernel_rfl) ?_
   refine T.pure (.slice A4 r3.1.length c3) (by kernel_rfl) (fun _ => by kernel_rfl) ?_
   refine T.nil ?_
   refine T.seq ?_
   refine T.seq ?_
   refine T.region ?_
   refine T.pure (.slice A4 r3.1.length c3) (by kernel_rfl) (fun _ => by kernel_rfl) ?_
   refine T.pure (.slice A15 (((((([] : List (Option Addr × Nat × Nat)) ++ [(A8, r3.1.length, c7)]) ++ [(A10, r5.1.length, c9)]) ++ [(A12, r7.1.length, c11)]) ++ [(A14, r9.1.length, c13)]).length) c14) (by kernel_rfl) (fun _ => by kernel_rfl) ?_
   refine T.pure (.int .i64 0) (by kernel_rfl) (fun _ => by kernel_rfl) ?_
   refine T.look (.pointer (some ((sadr A15).add ((0 : Int).toNat * 1)))) (by kernel_rfl) (fun w' hh => exec_indexAddr (e := 22) (s := 1) rfl rfl rfl (by kernel_rfl) (by kernel_rfl) (by decide) (by simp) ((hh.row_slOk (i := 6) (by rfl)).some_ (k := 0) rfl (by decide))) ?_
   refine T.look (.slice A8 r3.1.length c7) (by kernel_rfl) (fun w' hh => exec_load1 rfl rfl (by kernel_rfl) (SlOk.wcellF0 (E := eSl) (hh.row_slOk (i := 6) (by rfl)) (k := 0) rfl (fun _ _ _ h => h) rfl)) ?_
   obtain ⟨r17, hb12, hF⟩ := Option.bind_eq_some_iff.1 hF
   refine T.step (W1.call (vSc eBool) r17 10 #[.slice A4 r3.1.length c3, .slice A8 r3.1.length c7] (by kernel_rfl) (fun _ => by kernel_rfl) (fun w' hh => slices_Equal_Elem_l F r3.1 r3.1 r17 hb12 w' A4 c3 (hh.row_slOk (i := 13) (by rfl)) A8 c7 (hh.row_slOk (i := 8) (by rfl))) ?_)
   intro u V5 hV5 hu
   obtain rfl := sureBool _ _ _ hu
   refine T.pure (.bool (!r17)) (by kernel_rfl) (fun _ => by kernel_rfl) ?_
   refine T.nil ?_
   refine T.cond (!r17) (by kernel_rfl) (by kernel_rfl) (fun hc2 => ?_) (fun hc2 => ?_)
   ·
    rw [hc2, cond_true] at hF
    refine T.seq ?_
    refine T.region ?_
    refine T.pure (.bool false) (by kernel_rfl) (fun _ => by kernel_rfl) ?_
    refine T.nil ?_
    cases hF
    refine T.ret rfl ?_
    exact T.ret1 rfl (ResIs.tmp rfl) fun w' hh => ⟨_, rfl, hh.below, (show _ from rfl)⟩
   ·
    rw [hc2, cond_false] at hF
    refine T.skip_code ?_
    refine T.region ?_
    refine T.pure (.slice A4 r3.1.length c3) (by kernel_rfl) (fun _ => by kernel_rfl) ?_
    refine T.pure (.agg #[.int .i64 0, .int .i64 0, .int .i64 0, .int .i64 6, .int .i64 0, .string (ByteArray.mk #[])]) (by kernel_rfl) (fun _ => by kernel_rfl) ?_
    refine T.step (W1.callI 13 [.slice A4 r3.1.length c3, .agg #[.int .i64 0, .int .i64 0, .int .i64 0, .int .i64 6, .int .i64 0, .string (ByteArray.mk #[])]] (fun v w' => v = .tuple #[] ∧ Hp w V5 [row 28 eElem A4 c3 (List.replicate c3 (DElem.mk (DKey.mk 0 0 0) 6 0 (ByteArray.mk #[]))), box b6 22 [.slice A14 r9.1.length c13], row 28 eElem A14 c13 r9.1, box b5 22 [.slice A12 r7.1.length c11], row 28 eElem A12 c11 r7.1, box b4 22 [.slice A10 r5.1.length c9], row 28 eElem A10 c9 r5.1, row 22 eSl A15 c14 ((((([] : List (Option Addr × Nat × Nat)) ++ [(A8, r3.1.length, c7)]) ++ [(A10, r5.1.length, c9)]) ++ [(A12, r7.1.length, c11)]) ++ [(A14, r9.1.length, c13)]), box b3 22 [.slice A8 r3.1.length c7], row 28 eElem A8 c7 r3.1, box b2 22 [.slice A4 r3.1.length c3, .slice A5 r5.1.length c4, .slice A6 r7.1.length c5, .slice A7 r9.1.length c6], row 28 eElem A7 c6 r9.1, row 28 eElem A6 c5 r7.1, row 28 eElem A5 c4 r5.1, row 28 eElem A3 (p0.length + 3) (List.replicate (p0.length + 3) (DElem.mk (DKey.mk 0 0 0) 5 0 (ByteArray.mk #[])))] w') (by kernel_rfl) (fun _ => by kernel_rfl) (fun w' hh => (own_spoil_Elem (n := r3.1.length) (DElem.mk (DKey.mk 0 0 0) 6 0 (ByteArray.mk #[])) (hh.objs_at (i := 13) (by rfl)) (hh.perm (List.Perm.trans (List.Perm.cons _ (List.Perm.cons _ (List.Perm.cons _ (List.Perm.cons _ (List.Perm.cons _ (List.Perm.cons _ (List.Perm.cons _ (List.Perm.cons _ (List.Perm.cons _ (List.Perm.cons _ (List.Perm.cons _ (List.Perm.cons _ (List.Perm.swap _ _ _))))))))))))) (List.Perm.trans (List.Perm.cons _ (List.Perm.cons _ (List.Perm.cons _ (List.Perm.cons _ (List.Perm.cons _ (List.Perm.cons _ (List.Perm.cons _ (List.Perm.cons _ (List.Perm.cons _ (List.Perm.cons _ (List.Perm.cons _ (List.Perm.swap _ _ _)))))))))))) (List.Perm.trans (List.Perm.cons _ (List.Perm.cons _ (List.Perm.cons _ (List.Perm.cons _ (List.Perm.cons _ (List.Perm.cons _ (List.Perm.cons _ (List.Perm.cons _ (List.Perm.cons _ (List.Perm.cons _ (List.Perm.swap _ _ _))))))))))) (List.Perm.trans (List.Perm.cons _ (List.Perm.cons _ (List.Perm.cons _ (List.Perm.cons _ (List.Perm.cons _ (List.Perm.cons _ (List.Perm.cons _ (List.Perm.cons _ (List.Perm.cons _ (List.Perm.swap _ _ _)))))))))) (List.Perm.trans (List.Perm.cons _ (List.Perm.cons _ (List.Perm.cons _ (List.Perm.cons _ (List.Perm.cons _ (List.Perm.cons _ (List.Perm.cons _ (List.Perm.cons _ (List.Perm.swap _ _ _))))))))) (List.Perm.trans (List.Perm.cons _ (List.Perm.cons _ (List.Perm.cons _ (List.Perm.cons _ (List.Perm.cons _ (List.Perm.cons _ (List.Perm.cons _ (List.Perm.swap _ _ _)))))))) (List.Perm.trans (List.Perm.cons _ (List.Perm.cons _ (List.Perm.cons _ (List.Perm.cons _ (List.Perm.cons _ (List.Perm.cons _ (List.Perm.swap _ _ _))))))) (List.Perm.trans (List.Perm.cons _ (List.Perm.cons _ (List.Perm.cons _ (List.Perm.cons _ (List.Perm.cons _ (List.Perm.swap _ _ _)))))) (List.Perm.trans (List.Perm.cons _ (List.Perm.cons _ (List.Perm.cons _ (List.Perm.cons _ (List.Perm.swap _ _ _))))) (List.Perm.trans (List.Perm.cons _ (List.Perm.cons _ (List.Perm.cons _ (List.Perm.swap _ _ _)))) (List.Perm.trans (List.Perm.cons _ (List.Perm.cons _ (List.Perm.swap _ _ _))) (List.Perm.trans (List.Perm.cons _ (List.Perm.swap _ _ _)) (List.Perm.trans (List.Perm.swap _ _ _) (List.Perm.refl _)))))))))))))))).mono (by rintro e_ w_ ⟨rfl, h_⟩; exact ⟨_, rfl, rfl, h_⟩)) ?_)
    rintro v w' ⟨rfl, hh⟩
    refine ⟨V5, [box b6 22 [.slice A14 r9.1.length c13], row 28 eElem A14 c13 r9.1, box b5 22 [.slice A12 r7.1.length c11], row 28 eElem A12 c11 r7.1, box b4 22 [.slice A10 r5.1.length c9], row 28 eElem A10 c9 r5.1, row 22 eSl A15 c14 ((((([] : List (Option Addr × Nat × Nat)) ++ [(A8, r3.1.length, c7)]) ++ [(A10, r5.1.length, c9)]) ++ [(A12, r7.1.length, c11)]) ++ [(A14, r9.1.length, c13)]), box b3 22 [.slice A8 r3.1.length c7], row 28 eElem A8 c7 r3.1, box b2 22 [.slice A4 r3.1.length c3, .slice A5 r5.1.length c4, .slice A6 r7.1.length c5, .slice A7 r9.1.length c6], row 28 eElem A7 c6 r9.1, row 28 eElem A6 c5 r7.1, row 28 eElem A5 c4 r5.1, row 28 eElem A4 c3 (List.replicate c3 (DElem.mk (DKey.mk 0 0 0) 6 0 (ByteArray.mk #[]))), row 28 eElem A3 (p0.length + 3) (List.replicate (p0.length + 3) (DElem.mk (DKey.mk 0 0 0) 5 0 (ByteArray.mk #[])))], hh.perm (List.Perm.trans (List.Perm.swap _ _ _) (List.Perm.cons _ (List.Perm.trans (List.Perm.swap _ _ _) (List.Perm.cons _ (List.Perm.trans (List.Perm.swap _ _ _) (List.Perm.cons _ (List.Perm.trans (List.Perm.swap _ _ _) (List.Perm.cons _ (List.Perm.trans (List.Perm.swap _ _ _) (List.Perm.cons _ (List.Perm.trans (List.Perm.swap _ _ _) (List.Perm.cons _ (List.Perm.trans (List.Perm.swap _ _ _) (List.Perm.cons _ (List.Perm.trans (List.Perm.swap _ _ _) (List.Perm.cons _ (List.Perm.trans (List.Perm.swap _ _ _) (List.Perm.cons _ (List.Perm.trans (List.Perm.swap _ _ _) (List.Perm.cons _ (List.Perm.trans (List.Perm.swap _ _ _) (List.Perm.cons _ (List.Perm.trans (List.Perm.swap _ _ _) (List.Perm.cons _ (List.Perm.trans (List.Perm.swap _ _ _) (List.Perm.refl _)))))))))))))))))))))))))), ?_⟩
    clear hh
    refine T.nil ?_
    refine T.region ?_
    refine T.pure (.int .i64 1) (by kernel_rfl) (fun _ => by kernel_rfl) ?_
    refine T.pure (.int .i64 1) (by kernel_rfl) (fun _ => by kernel_rfl) ?_
    refine T.nil ?_
    refine T.round ?_
    refine T.seq ?_
    refine T.region ?_
    refine T.pure (.bool true) (by kernel_rfl) (fun _ => by kernel_rfl) ?_
    refine T.nil ?_
    refine T.seq ?_
    refine T.cond true (by kernel_rfl) (by kernel_rfl) (fun _ => ?_) (fun h => Bool.noConfusion h)
    refine T.skip_code ?_
    refine T.seq ?_
    refine T.block ?_
    refine T.seq ?_
    refine T.region ?_
    refine T.pure (.int .i64 1) (by kernel_rfl) (fun _ => by kernel_rfl) ?_
    refine T.pure (.pointer (some ⟨b2, 1, none⟩)) (by kernel_rfl) (fun _ => by kernel_rfl) ?_
    refine T.look (.slice A5 r5.1.length c4) (by kernel_rfl) (fun w' hh => exec_load1 rfl rfl (by kernel_rfl) (hh.cellBox (i := 9) (by rfl) 1)) ?_
    refine T.pure (.int .i64 1) (by kernel_rfl) (fun _ => by kernel_rfl) ?_
    refine T.pure (.slice A5 r5.1.length c4) (by kernel_rfl) (fun _ => by kernel_rfl) ?_
    refine T.nil ?_
    refine T.seq ?_
    refine T.seq ?_
    refine T.region ?_
    refine T.pure (.slice A5 r5.1.length c4) (by kernel_rfl) (fun _ => by kernel_rfl) ?_
    refine T.pure (.slice A15 (((((([] : List (Option Addr × Nat × Nat)) ++ [(A8, r3.1.length, c7)]) ++ [(A10, r5.1.length, c9)]) ++ [(A12, r7.1.length, c11)]) ++ [(A14, r9.1.length, c13)]).length) c14) (by kernel_rfl) (fun _ => by kernel_rfl) ?_
    refine T.pure (.int .i64 1) (by kernel_rfl) (fun _ => by kernel_rfl) ?_
    refine T.look (.pointer (some ((sadr A15).add ((1 : Int).toNat * 1)))) (by kernel_rfl) (fun w' hh => exec_indexAddr (e := 22) (s := 1) rfl rfl rfl (by kernel_rfl) (by kernel_rfl) (by decide) (by simp) ((hh.row_slOk (i := 6) (by rfl)).some_ (k := 1) rfl (by decide))) ?_
    refine T.look (.slice A10 r5.1.length c9) (by kernel_rfl) (fun w' hh => exec_load1 rfl rfl (by kernel_rfl) (SlOk.wcellF0 (E := eSl) (hh.row_slOk (i := 6) (by rfl)) (k := 1) rfl (fun _ _ _ h => h) rfl)) ?_
    obtain ⟨r18, hb13, hF⟩ := Option.bind_eq_some_iff.1 hF
    refine T.step (W1.call (vSc eBool) r18 10 #[.slice A5 r5.1.length c4, .slice A10 r5.1.length c9] (by kernel_rfl) (fun _ => by kernel_rfl) (fun w' hh => slices_Equal_Elem_l F r5.1 r5.1 r18 hb13 w' A5 c4 (hh.row_slOk (i := 12) (by rfl)) A10 c9 (hh.row_slOk (i := 5) (by rfl))) ?_)
    intro u V6 hV6 hu
    obtain rfl := sureBool _ _ _ hu
    refine T.pure (.bool (!r18)) (by kernel_rfl) (fun _ => by kernel_rfl) ?_
    refine T.nil ?_
    refine T.cond (!r18) (by kernel_rfl) (by kernel_rfl) (fun hc3 => ?_) (fun hc3 => ?_)
    ·
     rw [hc3, cond_true] at hF
     refine T.seq ?_
     refine T.region ?_
     refine T.pure (.bool false) (by kernel_rfl) (fun _ => by kernel_rfl) ?_
     refine T.nil ?_
     cases hF
     refine T.ret rfl ?_
     exact T.ret1 rfl (ResIs.tmp rfl) fun w' hh => ⟨_, rfl, hh.below, (show _ from rfl)⟩
    ·
     rw [hc3, cond_false] at hF
     refine T.skip_code ?_
     refine T.region ?_
     refine T.pure (.slice A5 r5.1.length c4) (by kernel_rfl) (fun _ => by kernel_rfl) ?_
     refine T.pure (.agg #[.int .i64 0, .int .i64 0, .int .i64 0, .int .i64 6, .int .i64 0, .string (ByteArray.mk #[])]) (by kernel_rfl) (fun _ => by kernel_rfl) ?_
     refine T.step (W1.callI 13 [.slice A5 r5.1.length c4, .agg #[.int .i64 0, .int .i64 0, .int .i64 0, .int .i64 6, .int .i64 0, .string (ByteArray.mk #[])]] (fun v w' => v = .tuple #[] ∧ Hp w V6 [row 28 eElem A5 c4 (List.replicate c4 (DElem.mk (DKey.mk 0 0 0) 6 0 (ByteArray.mk #[]))), box b6 22 [.slice A14 r9.1.length c13], row 28 eElem A14 c13 r9.1, box b5 22 [.slice A12 r7.1.length c11], row 28 eElem A12 c11 r7.1, box b4 22 [.slice A10 r5.1.length c9], row 28 eElem A10 c9 r5.1, row 22 eSl A15 c14 ((((([] : List (Option Addr × Nat × Nat)) ++ [(A8, r3.1.length, c7)]) ++ [(A10, r5.1.length, c9)]) ++ [(A12, r7.1.length, c11)]) ++ [(A14, r9.1.length, c13)]), box b3 22 [.slice A8 r3.1.length c7], row 28 eElem A8 c7 r3.1, box b2 22 [.slice A4 r3.1.length c3, .slice A5 r5.1.length c4, .slice A6 r7.1.length c5, .slice A7 r9.1.length c6], row 28 eElem A7 c6 r9.1, row 28 eElem A6 c5 r7.1, row 28 eElem A4 c3 (List.replicate c3 (DElem.mk (DKey.mk 0 0 0) 6 0 (ByteArray.mk #[]))), row 28 eElem A3 (p0.length + 3) (List.replicate (p0.length + 3) (DElem.mk (DKey.mk 0 0 0) 5 0 (ByteArray.mk #[])))] w') (by kernel_rfl) (fun _ => by kernel_rfl) (fun w' hh => (own_spoil_Elem (n := r5.1.length) (DElem.mk (DKey.mk 0 0 0) 6 0 (ByteArray.mk #[])) (hh.objs_at (i := 12) (by rfl)) (hh.perm (List.Perm.trans (List.Perm.cons _ (List.Perm.cons _ (List.Perm.cons _ (List.Perm.cons _ (List.Perm.cons _ (List.Perm.cons _ (List.Perm.cons _ (List.Perm.cons _ (List.Perm.cons _ (List.Perm.cons _ (List.Perm.cons _ (List.Perm.swap _ _ _)))))))))))) (List.Perm.trans (List.Perm.cons _ (List.Perm.cons _ (List.Perm.cons _ (List.Perm.cons _ (List.Perm.cons _ (List.Perm.cons _ (List.Perm.cons _ (List.Perm.cons _ (List.Perm.cons _ (List.Perm.cons _ (List.Perm.swap _ _ _))))))))))) (List.Perm.trans (List.Perm.cons _ (List.Perm.cons _ (List.Perm.cons _ (List.Perm.cons _ (List.Perm.cons _ (List.Perm.cons _ (List.Perm.cons _ (List.Perm.cons _ (List.Perm.cons _ (List.Perm.swap _ _ _)))))))))) (List.Perm.trans (List.Perm.cons _ (List.Perm.cons _ (List.Perm.cons _ (List.Perm.cons _ (List.Perm.cons _ (List.Perm.cons _ (List.Perm.cons _ (List.Perm.cons _ (List.Perm.swap _ _ _))))))))) (List.Perm.trans (List.Perm.cons _ (List.Perm.cons _ (List.Perm.cons _ (List.Perm.cons _ (List.Perm.cons _ (List.Perm.cons _ (List.Perm.cons _ (List.Perm.swap _ _ _)))))))) (List.Perm.trans (List.Perm.cons _ (List.Perm.cons _ (List.Perm.cons _ (List.Perm.cons _ (List.Perm.cons _ (List.Perm.cons _ (List.Perm.swap _ _ _))))))) (List.Perm.trans (List.Perm.cons _ (List.Perm.cons _ (List.Perm.cons _ (List.Perm.cons _ (List.Perm.cons _ (List.Perm.swap _ _ _)))))) (List.Perm.trans (List.Perm.cons _ (List.Perm.cons _ (List.Perm.cons _ (List.Perm.cons _ (List.Perm.swap _ _ _))))) (List.Perm.trans (List.Perm.cons _ (List.Perm.cons _ (List.Perm.cons _ (List.Perm.swap _ _ _)))) (List.Perm.trans (List.Perm.cons _ (List.Perm.cons _ (List.Perm.swap _ _ _))) (List.Perm.trans (List.Perm.cons _ (List.Perm.swap _ _ _)) (List.Perm.trans (List.Perm.swap _ _ _) (List.Perm.refl _))))))))))))))).mono (by rintro e_ w_ ⟨rfl, h_⟩; exact ⟨_, rfl, rfl, h_⟩)) ?_)
     rintro v w' ⟨rfl, hh⟩
     refine ⟨V6, [box b6 22 [.slice A14 r9.1.length c13], row 28 eElem A14 c13 r9.1, box b5 22 [.slice A12 r7.1.length c11], row 28 eElem A12 c11 r7.1, box b4 22 [.slice A10 r5.1.length c9], row 28 eElem A10 c9 r5.1, row 22 eSl A15 c14 ((((([] : List (Option Addr × Nat × Nat)) ++ [(A8, r3.1.length, c7)]) ++ [(A10, r5.1.length, c9)]) ++ [(A12, r7.1.length, c11)]) ++ [(A14, r9.1.length, c13)]), box b3 22 [.slice A8 r3.1.length c7], row 28 eElem A8 c7 r3.1, box b2 22 [.slice A4 r3.1.length c3, .slice A5 r5.1.length c4, .slice A6 r7.1.length c5, .slice A7 r9.1.length c6], row 28 eElem A7 c6 r9.1, row 28 eElem A6 c5 r7.1, row 28 eElem A5 c4 (List.replicate c4 (DElem.mk (DKey.mk 0 0 0) 6 0 (ByteArray.mk #[]))), row 28 eElem A4 c3 (List.replicate c3 (DElem.mk (DKey.mk 0 0 0) 6 0 (ByteArray.mk #[]))), row 28 eElem A3 (p0.length + 3) (List.replicate (p0.length + 3) (DElem.mk (DKey.mk 0 0 0) 5 0 (ByteArray.mk #[])))], hh.perm (List.Perm.trans (List.Perm.swap _ _ _) (List.Perm.cons _ (List.Perm.trans (List.Perm.swap _ _ _) (List.Perm.cons _ (List.Perm.trans (List.Perm.swap _ _ _) (List.Perm.cons _ (List.Perm.trans (List.Perm.swap _ _ _) (List.Perm.cons _ (List.Perm.trans (List.Perm.swap _ _ _) (List.Perm.cons _ (List.Perm.trans (List.Perm.swap _ _ _) (List.Perm.cons _ (List.Perm.trans (List.Perm.swap _ _ _) (List.Perm.cons _ (List.Perm.trans (List.Perm.swap _ _ _) (List.Perm.cons _ (List.Perm.trans (List.Perm.swap _ _ _) (List.Perm.cons _ (List.Perm.trans (List.Perm.swap _ _ _) (List.Perm.cons _ (List.Perm.trans (List.Perm.swap _ _ _) (List.Perm.cons _ (List.Perm.trans (List.Perm.swap _ _ _) (List.Perm.refl _)))))))))))))))))))))))), ?_⟩
     clear hh
     refine T.nil ?_
     refine T.region ?_
     refine T.pure (.int .i64 2) (by kernel_rfl) (fun _ => by kernel_rfl) ?_
     refine T.pure (.int .i64 2) (by kernel_rfl) (fun _ => by kernel_rfl) ?_
     refine T.nil ?_
     refine T.round ?_
     refine T.seq ?_
     refine T.region ?_
     refine T.pure (.bool true) (by kernel_rfl) (fun _ => by kernel_rfl) ?_
     refine T.nil ?_
     refine T.seq ?_
     refine T.cond true (by kernel_rfl) (by kernel_rfl) (fun _ => ?_) (fun h => Bool.noConfusion h)
     refine T.skip_code ?_
     refine T.seq ?_
     refine T.block ?_
     refine T.seq ?_
     refine T.region ?_
     refine T.pure (.int .i64 2) (by kernel_rfl) (fun _ => by kernel_rfl) ?_
     refine T.pure (.pointer (some ⟨b2, 2, none⟩)) (by kernel_rfl) (fun _ => by kernel_rfl) ?_
     refine T.look (.slice A6 r7.1.length c5) (by kernel_rfl) (fun w' hh => exec_load1 rfl rfl (by kernel_rfl) (hh.cellBox (i := 9) (by rfl) 2)) ?_
     refine T.pure (.int .i64 2) (by kernel_rfl) (fun _ => by kernel_rfl) ?_
     refine T.pure (.slice A6 r7.1.length c5) (by kernel_rfl) (fun _ => by kernel_rfl) ?_
     refine T.nil ?_
     refine T.seq ?_
     refine T.seq ?_
     refine T.region ?_
     refine T.pure (.slice A6 r7.1.length c5) (by kernel_rfl) (fun _ => by kernel_rfl) ?_
     refine T.pure (.slice A15 (((((([] : List (Option Addr × Nat × Nat)) ++ [(A8, r3.1.length, c7)]) ++ [(A10, r5.1.length, c9)]) ++ [(A12, r7.1.length, c11)]) ++ [(A14, r9.1.length, c13)]).length) c14) (by kernel_rfl) (fun _ => by kernel_rfl) ?_
     refine T.pure (.int .i64 2) (by kernel_rfl) (fun _ => by kernel_rfl) ?_
     refine T.look (.pointer (some ((sadr A15).add ((2 : Int).toNat * 1)))) (by kernel_rfl) (fun w' hh => exec_indexAddr (e := 22) (s := 1) rfl rfl rfl (by kernel_rfl) (by kernel_rfl) (by decide) (by simp) ((hh.row_slOk (i := 6) (by rfl)).some_ (k := 2) rfl (by decide))) ?_
     refine T.look (.slice A12 r7.1.length c11) (by kernel_rfl) (fun w' hh => exec_load1 rfl rfl (by kernel_rfl) (SlOk.wcellF0 (E := eSl) (hh.row_slOk (i := 6) (by rfl)) (k := 2) rfl (fun _ _ _ h => h) rfl)) ?_
     obtain ⟨r19, hb14, hF⟩ := Option.bind_eq_some_iff.1 hF
     refine T.step (W1.call (vSc eBool) r19 10 #[.slice A6 r7.1.length c5, .slice A12 r7.1.length c11] (by kernel_rfl) (fun _ => by kernel_rfl) (fun w' hh => slices_Equal_Elem_l F r7.1 r7.1 r19 hb14 w' A6 c5 (hh.row_slOk (i := 11) (by rfl)) A12 c11 (hh.row_slOk (i := 3) (by rfl))) ?_)
     intro u V7 hV7 hu
     obtain rfl := sureBool _ _ _ hu
     refine T.pure (.bool (!r19)) (by kernel_rfl) (fun _ => by kernel_rfl) ?_
     refine T.nil ?_
     refine T.cond (!r19) (by kernel_rfl) (by kernel_rfl) (fun hc4 => ?_) (fun hc4 => ?_)
     ·
      rw [hc4, cond_true] at hF
      refine T.seq ?_
      refine T.region ?_
      refine T.pure (.bool false) (by kernel_rfl) (fun _ => by kernel_rfl) ?_
      refine T.nil ?_
      cases hF
      refine T.ret rfl ?_
      exact T.ret1 rfl (ResIs.tmp rfl) fun w' hh => ⟨_, rfl, hh.below, (show _ from rfl)⟩
     ·
      rw [hc4, cond_false] at hF
      refine T.skip_code ?_
      refine T.region ?_
      refine T.pure (.slice A6 r7.1.length c5) (by kernel_rfl) (fun _ => by kernel_rfl) ?_
      refine T.pure (.agg #[.int .i64 0, .int .i64 0, .int .i64 0, .int .i64 6, .int .i64 0, .string (ByteArray.mk #[])]) (by kernel_rfl) (fun _ => by kernel_rfl) ?_
      refine T.step (W1.callI 13 [.slice A6 r7.1.length c5, .agg #[.int .i64 0, .int .i64 0, .int .i64 0, .int .i64 6, .int .i64 0, .string (ByteArray.mk #[])]] (fun v w' => v = .tuple #[] ∧ Hp w V7 [row 28 eElem A6 c5 (List.replicate c5 (DElem.mk (DKey.mk 0 0 0) 6 0 (ByteArray.mk #[]))), box b6 22 [.slice A14 r9.1.length c13], row 28 eElem A14 c13 r9.1, box b5 22 [.slice A12 r7.1.length c11], row 28 eElem A12 c11 r7.1, box b4 22 [.slice A10 r5.1.length c9], row 28 eElem A10 c9 r5.1, row 22 eSl A15 c14 ((((([] : List (Option Addr × Nat × Nat)) ++ [(A8, r3.1.length, c7)]) ++ [(A10, r5.1.length, c9)]) ++ [(A12, r7.1.length, c11)]) ++ [(A14, r9.1.length, c13)]), box b3 22 [.slice A8 r3.1.length c7], row 28 eElem A8 c7 r3.1, box b2 22 [.slice A4 r3.1.length c3, .slice A5 r5.1.length c4, .slice A6 r7.1.length c5, .slice A7 r9.1.length c6], row 28 eElem A7 c6 r9.1, row 28 eElem A5 c4 (List.replicate c4 (DElem.mk (DKey.mk 0 0 0) 6 0 (ByteArray.mk #[]))), row 28 eElem A4 c3 (List.replicate c3 (DElem.mk (DKey.mk 0 0 0) 6 0 (ByteArray.mk #[]))), row 28 eElem A3 (p0.length + 3) (List.replicate (p0.length + 3) (DElem.mk (DKey.mk 0 0 0) 5 0 (ByteArray.mk #[])))] w') (by kernel_rfl) (fun _ => by kernel_rfl) (fun w' hh => (own_spoil_Elem (n := r7.1.length) (DElem.mk (DKey.mk 0 0 0) 6 0 (ByteArray.mk #[])) (hh.objs_at (i := 11) (by rfl)) (hh.perm (List.Perm.trans (List.Perm.cons _ (List.Perm.cons _ (List.Perm.cons _ (List.Perm.cons _ (List.Perm.cons _ (List.Perm.cons _ (List.Perm.cons _ (List.Perm.cons _ (List.Perm.cons _ (List.Perm.cons _ (List.Perm.swap _ _ _))))))))))) (List.Perm.trans (List.Perm.cons _ (List.Perm.cons _ (List.Perm.cons _ (List.Perm.cons _ (List.Perm.cons _ (List.Perm.cons _ (List.Perm.cons _ (List.Perm.cons _ (List.Perm.cons _ (List.Perm.swap _ _ _)))))))))) (List.Perm.trans (List.Perm.cons _ (List.Perm.cons _ (List.Perm.cons _ (List.Perm.cons _ (List.Perm.cons _ (List.Perm.cons _ (List.Perm.cons _ (List.Perm.cons _ (List.Perm.swap _ _ _))))))))) (List.Perm.trans (List.Perm.cons _ (List.Perm.cons _ (List.Perm.cons _ (List.Perm.cons _ (List.Perm.cons _ (List.Perm.cons _ (List.Perm.cons _ (List.Perm.swap _ _ _)))))))) (List.Perm.trans (List.Perm.cons _ (List.Perm.cons _ (List.Perm.cons _ (List.Perm.cons _ (List.Perm.cons _ (List.Perm.cons _ (List.Perm.swap _ _ _))))))) (List.Perm.trans (List.Perm.cons _ (List.Perm.cons _ (List.Perm.cons _ (List.Perm.cons _ (List.Perm.cons _ (List.Perm.swap _ _ _)))))) (List.Perm.trans (List.Perm.cons _ (List.Perm.cons _ (List.Perm.cons _ (List.Perm.cons _ (List.Perm.swap _ _ _))))) (List.Perm.trans (List.Perm.cons _ (List.Perm.cons _ (List.Perm.cons _ (List.Perm.swap _ _ _)))) (List.Perm.trans (List.Perm.cons _ (List.Perm.cons _ (List.Perm.swap _ _ _))) (List.Perm.trans (List.Perm.cons _ (List.Perm.swap _ _ _)) (List.Perm.trans (List.Perm.swap _ _ _) (List.Perm.refl _)))))))))))))).mono (by rintro e_ w_ ⟨rfl, h_⟩; exact ⟨_, rfl, rfl, h_⟩)) ?_)
      rintro v w' ⟨rfl, hh⟩
      refine ⟨V7, [box b6 22 [.slice A14 r9.1.length c13], row 28 eElem A14 c13 r9.1, box b5 22 [.slice A12 r7.1.length c11], row 28 eElem A12 c11 r7.1, box b4 22 [.slice A10 r5.1.length c9], row 28 eElem A10 c9 r5.1, row 22 eSl A15 c14 ((((([] : List (Option Addr × Nat × Nat)) ++ [(A8, r3.1.length, c7)]) ++ [(A10, r5.1.length, c9)]) ++ [(A12, r7.1.length, c11)]) ++ [(A14, r9.1.length, c13)]), box b3 22 [.slice A8 r3.1.length c7], row 28 eElem A8 c7 r3.1, box b2 22 [.slice A4 r3.1.length c3, .slice A5 r5.1.length c4, .slice A6 r7.1.length c5, .slice A7 r9.1.length c6], row 28 eElem A7 c6 r9.1, row 28 eElem A6 c5 (List.replicate c5 (DElem.mk (DKey.mk 0 0 0) 6 0 (ByteArray.mk #[]))), row 28 eElem A5 c4 (List.replicate c4 (DElem.mk (DKey.mk 0 0 0) 6 0 (ByteArray.mk #[]))), row 28 eElem A4 c3 (List.replicate c3 (DElem.mk (DKey.mk 0 0 0) 6 0 (ByteArray.mk #[]))), row 28 eElem A3 (p0.length + 3) (List.replicate (p0.length + 3) (DElem.mk (DKey.mk 0 0 0) 5 0 (ByteArray.mk #[])))], hh.perm (List.Perm.trans (List.Perm.swap _ _ _) (List.Perm.cons _ (List.Perm.trans (List.Perm.swap _ _ _) (List.Perm.cons _ (List.Perm.trans (List.Perm.swap _ _ _) (List.Perm.cons _ (List.Perm.trans (List.Perm.swap _ _ _) (List.Perm.cons _ (List.Perm.trans (List.Perm.swap _ _ _) (List.Perm.cons _ (List.Perm.trans (List.Perm.swap _ _ _) (List.Perm.cons _ (List.Perm.trans (List.Perm.swap _ _ _) (List.Perm.cons _ (List.Perm.trans (List.Perm.swap _ _ _) (List.Perm.cons _ (List.Perm.trans (List.Perm.swap _ _ _) (List.Perm.cons _ (List.Perm.trans (List.Perm.swap _ _ _) (List.Perm.cons _ (List.Perm.trans (List.Perm.swap _ _ _) (List.Perm.refl _)))))))))))))))))))))), ?_⟩
      clear hh
      refine T.nil ?_
      refine T.region ?_
      refine T.pure (.int .i64 3) (by kernel_rfl) (fun _ => by kernel_rfl) ?_
      refine T.pure (.int .i64 3) (by kernel_rfl) (fun _ => by kernel_rfl) ?_
      refine T.nil ?_
      refine T.round ?_
      refine T.seq ?_
      refine T.region ?_
      refine T.pure (.bool true) (by kernel_rfl) (fun _ => by kernel_rfl) ?_
      refine T.nil ?_
      refine T.seq ?_
      refine T.cond true (by kernel_rfl) (by kernel_rfl) (fun _ => ?_) (fun h => Bool.noConfusion h)
      refine T.skip_code ?_
      refine T.seq ?_
      refine T.block ?_
      refine T.seq ?_
      refine T.region ?_
      refine T.pure (.int .i64 3) (by kernel_rfl) (fun _ => by kernel_rfl) ?_
      refine T.pure (.pointer (some ⟨b2, 3, none⟩)) (by kernel_rfl) (fun _ => by kernel_rfl) ?_
      refine T.look (.slice A7 r9.1.length c6) (by kernel_rfl) (fun w' hh => exec_load1 rfl rfl (by kernel_rfl) (hh.cellBox (i := 9) (by rfl) 3)) ?_
      refine T.pure (.int .i64 3) (by kernel_rfl) (fun _ => by kernel_rfl) ?_
      refine T.pure (.slice A7 r9.1.length c6) (by kernel_rfl) (fun _ => by kernel_rfl) ?_
      refine T.nil ?_
      refine T.seq ?_
      refine T.seq ?_
      refine T.region ?_
      refine T.pure (.slice A7 r9.1.length c6) (by kernel_rfl) (fun _ => by kernel_rfl) ?_
      refine T.pure (.slice A15 (((((([] : List (Option Addr × Nat × Nat)) ++ [(A8, r3.1.length, c7)]) ++ [(A10, r5.1.length, c9)]) ++ [(A12, r7.1.length, c11)]) ++ [(A14, r9.1.length, c13)]).length) c14) (by kernel_rfl) (fun _ => by kernel_rfl) ?_
      refine T.pure (.int .i64 3) (by kernel_rfl) (fun _ => by kernel_rfl) ?_
      refine T.look (.pointer (some ((sadr A15).add ((3 : Int).toNat * 1)))) (by kernel_rfl) (fun w' hh => exec_indexAddr (e := 22) (s := 1) rfl rfl rfl (by kernel_rfl) (by kernel_rfl) (by decide) (by simp) ((hh.row_slOk (i := 6) (by rfl)).some_ (k := 3) rfl (by decide))) ?_
      refine T.look (.slice A14 r9.1.length c13) (by kernel_rfl) (fun w' hh => exec_load1 rfl rfl (by kernel_rfl) (SlOk.wcellF0 (E := eSl) (hh.row_slOk (i := 6) (by rfl)) (k := 3) rfl (fun _ _ _ h => h) rfl)) ?_
      obtain ⟨r20, hb15, hF⟩ := Option.bind_eq_some_iff.1 hF
      refine T.step (W1.call (vSc eBool) r20 10 #[.slice A7 r9.1.length c6, .slice A14 r9.1.length c13] (by kernel_rfl) (fun _ => by kernel_rfl) (fun w' hh => slices_Equal_Elem_l F r9.1 r9.1 r20 hb15 w' A7 c6 (hh.row_slOk (i := 10) (by rfl)) A14 c13 (hh.row_slOk (i := 1) (by rfl))) ?_)
      intro u V8 hV8 hu
      obtain rfl := sureBool _ _ _ hu
      refine T.pure (.bool (!r20)) (by kernel_rfl) (fun _ => by kernel_rfl) ?_
      refine T.nil ?_
      refine T.cond (!r20) (by kernel_rfl) (by kernel_rfl) (fun hc5 => ?_) (fun hc5 => ?_)
      ·
       rw [hc5, cond_true] at hF
       refine T.seq ?_
       refine T.region ?_
       refine T.pure (.bool false) (by kernel_rfl) (fun _ => by kernel_rfl) ?_
       refine T.nil ?_
       cases hF
       refine T.ret rfl ?_
       exact T.ret1 rfl (ResIs.tmp rfl) fun w' hh => ⟨_, rfl, hh.below, (show _ from rfl)⟩
      ·
       rw [hc5, cond_false] at hF
       refine T.skip_code ?_
       refine T.region ?_
       refine T.pure (.slice A7 r9.1.length c6) (by kernel_rfl) (fun _ => by kernel_rfl) ?_
       refine T.pure (.agg #[.int .i64 0, .int .i64 0, .int .i64 0, .int .i64 6, .int .i64 0, .string (ByteArray.mk #[])]) (by kernel_rfl) (fun _ => by kernel_rfl) ?_
       refine T.step (W1.callI 13 [.slice A7 r9.1.length c6, .agg #[.int .i64 0, .int .i64 0, .int .i64 0, .int .i64 6, .int .i64 0, .string (ByteArray.mk #[])]] (fun v w' => v = .tuple #[] ∧ Hp w V8 [row 28 eElem A7 c6 (List.replicate c6 (DElem.mk (DKey.mk 0 0 0) 6 0 (ByteArray.mk #[]))), box b6 22 [.slice A14 r9.1.length c13], row 28 eElem A14 c13 r9.1, box b5 22 [.slice A12 r7.1.length c11], row 28 eElem A12 c11 r7.1, box b4 22 [.slice A10 r5.1.length c9], row 28 eElem A10 c9 r5.1, row 22 eSl A15 c14 ((((([] : List (Option Addr × Nat × Nat)) ++ [(A8, r3.1.length, c7)]) ++ [(A10, r5.1.length, c9)]) ++ [(A12, r7.1.length, c11)]) ++ [(A14, r9.1.length, c13)]), box b3 22 [.slice A8 r3.1.length c7], row 28 eElem A8 c7 r3.1, box b2 22 [.slice A4 r3.1.length c3, .slice A5 r5.1.length c4, .slice A6 r7.1.length c5, .slice A7 r9.1.length c6], row 28 eElem A6 c5 (List.replicate c5 (DElem.mk (DKey.mk 0 0 0) 6 0 (ByteArray.mk #[]))), row 28 eElem A5 c4 (List.replicate c4 (DElem.mk (DKey.mk 0 0 0) 6 0 (ByteArray.mk #[]))), row 28 eElem A4 c3 (List.replicate c3 (DElem.mk (DKey.mk 0 0 0) 6 0 (ByteArray.mk #[]))), row 28 eElem A3 (p0.length + 3) (List.replicate (p0.length + 3) (DElem.mk (DKey.mk 0 0 0) 5 0 (ByteArray.mk #[])))] w') (by kernel_rfl) (fun _ => by kernel_rfl) (fun w' hh => (own_spoil_Elem (n := r9.1.length) (DElem.mk (DKey.mk 0 0 0) 6 0 (ByteArray.mk #[])) (hh.objs_at (i := 10) (by rfl)) (hh.perm (List.Perm.trans (List.Perm.cons _ (List.Perm.cons _ (List.Perm.cons _ (List.Perm.cons _ (List.Perm.cons _ (List.Perm.cons _ (List.Perm.cons _ (List.Perm.cons _ (List.Perm.cons _ (List.Perm.swap _ _ _)))))))))) (List.Perm.trans (List.Perm.cons _ (List.Perm.cons _ (List.Perm.cons _ (List.Perm.cons _ (List.Perm.cons _ (List.Perm.cons _ (List.Perm.cons _ (List.Perm.cons _ (List.Perm.swap _ _ _))))))))) (List.Perm.trans (List.Perm.cons _ (List.Perm.cons _ (List.Perm.cons _ (List.Perm.cons _ (List.Perm.cons _ (List.Perm.cons _ (List.Perm.cons _ (List.Perm.swap _ _ _)))))))) (List.Perm.trans (List.Perm.cons _ (List.Perm.cons _ (List.Perm.cons _ (List.Perm.cons _ (List.Perm.cons _ (List.Perm.cons _ (List.Perm.swap _ _ _))))))) (List.Perm.trans (List.Perm.cons _ (List.Perm.cons _ (List.Perm.cons _ (List.Perm.cons _ (List.Perm.cons _ (List.Perm.swap _ _ _)))))) (List.Perm.trans (List.Perm.cons _ (List.Perm.cons _ (List.Perm.cons _ (List.Perm.cons _ (List.Perm.swap _ _ _))))) (List.Perm.trans (List.Perm.cons _ (List.Perm.cons _ (List.Perm.cons _ (List.Perm.swap _ _ _)))) (List.Perm.trans (List.Perm.cons _ (List.Perm.cons _ (List.Perm.swap _ _ _))) (List.Perm.trans (List.Perm.cons _ (List.Perm.swap _ _ _)) (List.Perm.trans (List.Perm.swap _ _ _) (List.Perm.refl _))))))))))))).mono (by rintro e_ w_ ⟨rfl, h_⟩; exact ⟨_, rfl, rfl, h_⟩)) ?_)
       rintro v w' ⟨rfl, hh⟩
       refine ⟨V8, [box b6 22 [.slice A14 r9.1.length c13], row 28 eElem A14 c13 r9.1, box b5 22 [.slice A12 r7.1.length c11], row 28 eElem A12 c11 r7.1, box b4 22 [.slice A10 r5.1.length c9], row 28 eElem A10 c9 r5.1, row 22 eSl A15 c14 ((((([] : List (Option Addr × Nat × Nat)) ++ [(A8, r3.1.length, c7)]) ++ [(A10, r5.1.length, c9)]) ++ [(A12, r7.1.length, c11)]) ++ [(A14, r9.1.length, c13)]), box b3 22 [.slice A8 r3.1.length c7], row 28 eElem A8 c7 r3.1, box b2 22 [.slice A4 r3.1.length c3, .slice A5 r5.1.length c4, .slice A6 r7.1.length c5, .slice A7 r9.1.length c6], row 28 eElem A7 c6 (List.replicate c6 (DElem.mk (DKey.mk 0 0 0) 6 0 (ByteArray.mk #[]))), row 28 eElem A6 c5 (List.replicate c5 (DElem.mk (DKey.mk 0 0 0) 6 0 (ByteArray.mk #[]))), row 28 eElem A5 c4 (List.replicate c4 (DElem.mk (DKey.mk 0 0 0) 6 0 (ByteArray.mk #[]))), row 28 eElem A4 c3 (List.replicate c3 (DElem.mk (DKey.mk 0 0 0) 6 0 (ByteArray.mk #[]))), row 28 eElem A3 (p0.length + 3) (List.replicate (p0.length + 3) (DElem.mk (DKey.mk 0 0 0) 5 0 (ByteArray.mk #[])))], hh.perm (List.Perm.trans (List.Perm.swap _ _ _) (List.Perm.cons _ (List.Perm.trans (List.Perm.swap _ _ _) (List.Perm.cons _ (List.Perm.trans (List.Perm.swap _ _ _) (List.Perm.cons _ (List.Perm.trans (List.Perm.swap _ _ _) (List.Perm.cons _ (List.Perm.trans (List.Perm.swap _ _ _) (List.Perm.cons _ (List.Perm.trans (List.Perm.swap _ _ _) (List.Perm.cons _ (List.Perm.trans (List.Perm.swap _ _ _) (List.Perm.cons _ (List.Perm.trans (List.Perm.swap _ _ _) (List.Perm.cons _ (List.Perm.trans (List.Perm.swap _ _ _) (List.Perm.cons _ (List.Perm.trans (List.Perm.swap _ _ _) (List.Perm.refl _)))))))))))))))))))), ?_⟩
       clear hh
       refine T.nil ?_
       refine T.region ?_
       refine T.pure (.int .i64 4) (by kernel_rfl) (fun _ => by kernel_rfl) ?_
       refine T.pure (.int .i64 4) (by kernel_rfl) (fun _ => by kernel_rfl) ?_
       refine T.nil ?_
       refine T.round ?_
       refine T.seq ?_
       refine T.region ?_
       refine T.pure (.bool false) (by kernel_rfl) (fun _ => by kernel_rfl) ?_
       refine T.nil ?_
       refine T.seq ?_
       refine T.cond false (by kernel_rfl) (by kernel_rfl) (fun h => Bool.noConfusion h) (fun _ => ?_)
       refine T.exit ?_
       refine T.seq ?_
       refine T.region ?_
       refine T.pure (.agg #[.int .i64 0, .int .i64 0, .int .i64 0]) (by kernel_rfl) (fun _ => by kernel_rfl) ?_
       obtain ⟨r21, hb16, hF⟩ := Option.bind_eq_some_iff.1 hF
       refine T.step (W1.callG 6 #[.slice none 0 0, .agg #[.int .i64 0, .int .i64 0, .int .i64 0], .string (ByteArray.mk #[97]), .int .i64 1] (fun p : Option Addr × Nat => .tuple #[.slice p.1 r21.1.length p.2, .int .i64 r21.2]) (fun p => [row 28 eElem p.1 p.2 r21.1]) (fun _ => True) (by kernel_rfl) (fun _ => by kernel_rfl) (fun w' hh => run_Put_l F ([] : List DElem) (DKey.mk 0 0 0) (ByteArray.mk #[97]) 1 r21 hb16 w' none 0 (SlOk.nil _ _)) ?_)
       rintro ⟨A16, c15⟩ _
       refine T.reH (H' := [row 28 eElem A16 c15 r21.1, box b6 22 [.slice A14 r9.1.length c13], row 28 eElem A14 c13 r9.1, box b5 22 [.slice A12 r7.1.length c11], row 28 eElem A12 c11 r7.1, box b4 22 [.slice A10 r5.1.length c9], row 28 eElem A10 c9 r5.1, row 22 eSl A15 c14 ((((([] : List (Option Addr × Nat × Nat)) ++ [(A8, r3.1.length, c7)]) ++ [(A10, r5.1.length, c9)]) ++ [(A12, r7.1.length, c11)]) ++ [(A14, r9.1.length, c13)]), box b3 22 [.slice A8 r3.1.length c7], row 28 eElem A8 c7 r3.1, box b2 22 [.slice A4 r3.1.length c3, .slice A5 r5.1.length c4, .slice A6 r7.1.length c5, .slice A7 r9.1.length c6], row 28 eElem A7 c6 (List.replicate c6 (DElem.mk (DKey.mk 0 0 0) 6 0 (ByteArray.mk #[]))), row 28 eElem A6 c5 (List.replicate c5 (DElem.mk (DKey.mk 0 0 0) 6 0 (ByteArray.mk #[]))), row 28 eElem A5 c4 (List.replicate c4 (DElem.mk (DKey.mk 0 0 0) 6 0 (ByteArray.mk #[]))), row 28 eElem A4 c3 (List.replicate c3 (DElem.mk (DKey.mk 0 0 0) 6 0 (ByteArray.mk #[]))), row 28 eElem A3 (p0.length + 3) (List.replicate (p0.length + 3) (DElem.mk (DKey.mk 0 0 0) 5 0 (ByteArray.mk #[])))]) (by rfl) ?_
       refine T.pure (.tuple #[.slice A16 r21.1.length c15, .int .i64 r21.2]) (by kernel_rfl) (fun _ => by kernel_rfl) ?_
       refine T.pure (.slice A16 r21.1.length c15) (by kernel_rfl) (fun _ => by kernel_rfl) ?_
       refine T.pure (.int .i64 r21.2) (by kernel_rfl) (fun _ => by kernel_rfl) ?_
       refine T.pure (.slice A16 r21.1.length c15) (by kernel_rfl) (fun _ => by kernel_rfl) ?_
       refine T.pure (.int .i64 r21.2) (by kernel_rfl) (fun _ => by kernel_rfl) ?_
       refine T.nil ?_
       refine T.cut (fun a w' => Fr 119 [(10, .bool ((r21.2 == 0) && ((r21.1.length : Int) == 1)))] a ∧ Hp w V8 [] w') ?_ ?_
       ·
        refine T.region ?_
        refine T.pure (.int .i64 r21.2) (by kernel_rfl) (fun _ => by kernel_rfl) ?_
        refine T.pure (.bool (r21.2 == 0)) (by kernel_rfl) (fun _ => by kernel_rfl) ?_
        refine T.pure (.bool (r21.2 == 0)) (by kernel_rfl) (fun _ => by kernel_rfl) ?_
        cases hg2 : (r21.2 == 0)
        ·
         skip
         refine T.pass (by kernel_rfl) (by kernel_rfl) ?_
         refine T.pass (by kernel_rfl) (by kernel_rfl) ?_
         refine T.pass (by kernel_rfl) (by kernel_rfl) ?_
         refine T.pure (.bool false) (by kernel_rfl) (fun _ => by kernel_rfl) ?_
         refine T.pure (.bool false) (by kernel_rfl) (fun _ => by kernel_rfl) ?_
         refine T.nil ?_
         exact fun a w' hf hh => And.intro ((Fr.nil hf).pick hf 10 rfl) (hh.sub (.cons _ (.cons _ (.cons _ (.cons _ (.cons _ (.cons _ (.cons _ (.cons _ (.cons _ (.cons _ (.cons _ (.cons _ (.cons _ (.cons _ (.cons _ (.cons _ List.Sublist.slnil)))))))))))))))))
        ·
         skip
         refine T.pure (.slice A16 r21.1.length c15) (by kernel_rfl) (fun _ => by kernel_rfl) ?_
         refine T.pure (.int .i64 (r21.1.length : Int)) (by kernel_rfl) (fun _ => by kernel_rfl) ?_
         refine T.pure (.bool ((r21.1.length : Int) == 1)) (by kernel_rfl) (fun _ => by kernel_rfl) ?_
         refine T.pure (.bool ((r21.1.length : Int) == 1)) (by kernel_rfl) (fun _ => by kernel_rfl) ?_
         refine T.pure (.bool ((r21.1.length : Int) == 1)) (by kernel_rfl) (fun _ => by kernel_rfl) ?_
         refine T.nil ?_
         exact fun a w' hf hh => And.intro ((Fr.nil hf).pick hf 10 rfl) (hh.sub (.cons _ (.cons _ (.cons _ (.cons _ (.cons _ (.cons _ (.cons _ (.cons _ (.cons _ (.cons _ (.cons _ (.cons _ (.cons _ (.cons _ (.cons _ (.cons _ List.Sublist.slnil)))))))))))))))))
       ·
        rintro a w' ⟨hf, hh⟩
        refine (?_ : T 119 w V8 [] [(10, .bool ((r21.2 == 0) && ((r21.1.length : Int) == 1)))] _) a w' hf hh
        clear hf hh
        cases hF
        refine T.ret rfl ?_
        exact T.ret1 rfl (ResIs.tmp rfl) fun w' hh => ⟨_, rfl, hh.below, (show _ from rfl)⟩

end Go.Proofs.Ytaodaihoglcinaa
