/- The Go functions of group WRunPast compute the pure functions of that group: written by walkgen.py. Condition of each: the pure function yields a result. -/
import Derived.Test.YtiaoncjkfgebdaaRunL
import Derived.Test.YtiaoncjkfgebdaaEqsL
import Derived.Test.YtiaoncjkfgebdaaWRunPastF
import Derived.Test.YtiaoncjkfgebdaaEqL
namespace Go.Proofs.Ytiaoncjkfgebdaa
set_option linter.unusedVariables false

set_option maxRecDepth 100000 in
set_option maxHeartbeats 4000000 in
theorem annalkeep_RunPast_l (F : Nat) (p0 : (List DElem)) (p1 : DKey) (p2 : DKey) (p3 : ByteArray) (p4 : Int) (p5 : Int) (r : Bool) (hF : annalkeep_RunPast F p0 p1 p2 p3 p4 p5 = some r) (w : World) (A1 : Option Addr) (c1 : Nat) (hs1 : SlOk (vw w) eElem A1 c1 p0) :
    Calls Try.prog 10 #[.slice A1 p0.length c1, .agg #[.int .i64 p1.pfs, .int .i64 p1.obj, .int .i64 p1.off], .agg #[.int .i64 p2.pfs, .int .i64 p2.obj, .int .i64 p2.off], .string p3, .int .i64 p4, .int .i64 p5] w (Post (vSc eBool) r w) := by
  unfold annalkeep_RunPast at hF
  refine T.start (l := [.slice A1 p0.length c1, .agg #[.int .i64 p1.pfs, .int .i64 p1.obj, .int .i64 p1.off], .agg #[.int .i64 p2.pfs, .int .i64 p2.obj, .int .i64 p2.off], .string p3, .int .i64 p4, .int .i64 p5]) Try.func10 rfl rfl rfl ?_
  refine T.seq ?_
  refine T.region ?_
  refine T.step (W1.new 24 [.int .i64 p1.pfs, .int .i64 p1.obj, .int .i64 p1.off] (fun b => .pointer (some ⟨b, 0, none⟩)) (by kernel_rfl) (fun _ => by kernel_rfl) (fun b1 => ?_))
  refine T.step (W1.new 24 [.int .i64 p2.pfs, .int .i64 p2.obj, .int .i64 p2.off] (fun b => .pointer (some ⟨b, 0, none⟩)) (by kernel_rfl) (fun _ => by kernel_rfl) (fun b2 => ?_))
  refine T.pure (.bool false) (by kernel_rfl) (fun _ => by kernel_rfl) ?_
  refine T.nil ?_
  refine T.seq ?_
  refine T.seq ?_
  refine T.region ?_
  obtain ⟨r1, hb1, hF⟩ := Option.bind_eq_some_iff.1 hF
  refine T.step (W1.call (vAg eElem) r1 31 #[.int .i64 1, .string (ByteArray.mk #[97])] (by kernel_rfl) (fun _ => by kernel_rfl) (fun w' hh => annalkeep_at1_l 1 (ByteArray.mk #[97]) r1 hb1 w' ) ?_)
  intro u V1 hV1 hu
  obtain rfl := sureElem _ _ _ hu
  refine T.step (W1.new 26 [.int .i64 r1.key.pfs, .int .i64 r1.key.obj, .int .i64 r1.key.off, .int .i64 r1.made, .int .i64 r1.gone, .string r1.val] (fun b => .slice (some ⟨b, 0, none⟩) 1 1) (by kernel_rfl) (fun _ => by kernel_rfl) (fun b3 => ?_))
  refine T.pure (.agg #[.int .i64 0, .int .i64 0, .int .i64 1]) (by kernel_rfl) (fun _ => by kernel_rfl) ?_
  obtain ⟨r2, hb2, hF⟩ := Option.bind_eq_some_iff.1 hF
  refine T.step (W1.call (vT2 (vSc (eList eElem)) (vSc eInt)) r2 48 #[.slice (some ⟨b3, 0, none⟩) 1 1, .agg #[.int .i64 0, .int .i64 0, .int .i64 1], .string (ByteArray.mk #[98]), .int .i64 2] (by kernel_rfl) (fun _ => by kernel_rfl) (fun w' hh => run_Put_l F [r1] (DKey.mk 0 0 1) (ByteArray.mk #[98]) 2 r2 hb2 w' (some ⟨b3, 0, none⟩) 1 (slok_lit (E := eElem) (f := DElem.cells) [r1] (fun _ _ => rfl) (Nat.le_of_ble_eq_true (by rfl)) (fun j => hh.cellBox (i := 0) (by rfl) j))) ?_)
  intro u V2 hV2 hu
  obtain ⟨u1, u2, rfl, hu1, hu2⟩ := vT2_elim hu
  obtain ⟨A2, c2, rfl, hs2⟩ := vlist_elim hu1
  obtain rfl := sureInt _ _ _ hu2
  refine T.pure (.tuple #[.slice A2 r2.1.length c2, .int .i64 r2.2]) (by kernel_rfl) (fun _ => by kernel_rfl) ?_
  refine T.pure (.slice A2 r2.1.length c2) (by kernel_rfl) (fun _ => by kernel_rfl) ?_
  refine T.pure (.int .i64 r2.2) (by kernel_rfl) (fun _ => by kernel_rfl) ?_
  refine T.pure (.slice A2 r2.1.length c2) (by kernel_rfl) (fun _ => by kernel_rfl) ?_
  refine T.pure (.int .i64 r2.2) (by kernel_rfl) (fun _ => by kernel_rfl) ?_
  refine T.nil ?_
  obtain ⟨z1, hX1, hF⟩ := Option.bind_eq_some_iff.1 hF
  refine T.cut (fun a w' => ∃ (V3 : View), View.le V2 V3 ∧ Fr 123 [(0, .slice A1 p0.length c1), (3, .string p3), (4, .int .i64 p4), (5, .int .i64 p5), (7, .pointer (some ⟨b1, 0, none⟩)), (8, .pointer (some ⟨b2, 0, none⟩)), (42, .bool z1)] a ∧ Hp w V3 [box b2 24 [.int .i64 p2.pfs, .int .i64 p2.obj, .int .i64 p2.off], box b1 24 [.int .i64 p1.pfs, .int .i64 p1.obj, .int .i64 p1.off]] w') ?_ ?_
  ·
    refine T.region ?_
    refine T.pure (.int .i64 r2.2) (by kernel_rfl) (fun _ => by kernel_rfl) ?_
    refine T.pure (.bool (r2.2 != 0)) (by kernel_rfl) (fun _ => by kernel_rfl) ?_
    refine T.pure (.bool (r2.2 != 0)) (by kernel_rfl) (fun _ => by kernel_rfl) ?_
    cases hg1 : (r2.2 != 0)
    ·
      skip
      rw [hg1, cond_false] at hX1
      refine T.pure (.slice A2 r2.1.length c2) (by kernel_rfl) (fun _ => by kernel_rfl) ?_
      refine T.pure (.agg #[.int .i64 0, .int .i64 0, .int .i64 1]) (by kernel_rfl) (fun _ => by kernel_rfl) ?_
      refine T.pure (.agg #[.int .i64 0, .int .i64 0, .int .i64 1, .int .i64 1, .int .i64 2, .string (ByteArray.mk #[97])]) (by kernel_rfl) (fun _ => by kernel_rfl) ?_
      refine T.pure (.agg #[.int .i64 0, .int .i64 0, .int .i64 1]) (by kernel_rfl) (fun _ => by kernel_rfl) ?_
      refine T.pure (.agg #[.int .i64 0, .int .i64 0, .int .i64 1, .int .i64 2, .int .i64 0, .string (ByteArray.mk #[98])]) (by kernel_rfl) (fun _ => by kernel_rfl) ?_
      refine T.step (W1.new 26 [.int .i64 0, .int .i64 0, .int .i64 1, .int .i64 1, .int .i64 2, .string (ByteArray.mk #[97]), .int .i64 0, .int .i64 0, .int .i64 1, .int .i64 2, .int .i64 0, .string (ByteArray.mk #[98])] (fun b => .slice (some ⟨b, 0, none⟩) 2 2) (by kernel_rfl) (fun _ => by kernel_rfl) (fun b4 => ?_))
      obtain ⟨r3, hb3, hX1⟩ := Option.bind_eq_some_iff.1 hX1
      refine T.step (W1.call (vSc eBool) r3 29 #[.slice A2 r2.1.length c2, .slice (some ⟨b4, 0, none⟩) 2 2] (by kernel_rfl) (fun _ => by kernel_rfl) (fun w' hh => slices_Equal_Elem_l F r2.1 [(DElem.mk (DKey.mk 0 0 1) 1 2 (ByteArray.mk #[97])), (DElem.mk (DKey.mk 0 0 1) 2 0 (ByteArray.mk #[98]))] r3 hb3 w' A2 c2 (SlOk.mono (SlOk.mono hs2 (View.le_trans (made_le _ _) (View.le_refl _))) hh.view) (some ⟨b4, 0, none⟩) 2 (slok_lit (E := eElem) (f := DElem.cells) [(DElem.mk (DKey.mk 0 0 1) 1 2 (ByteArray.mk #[97])), (DElem.mk (DKey.mk 0 0 1) 2 0 (ByteArray.mk #[98]))] (fun _ _ => rfl) (Nat.le_of_ble_eq_true (by rfl)) (fun j => hh.cellBox (i := 0) (by rfl) j))) ?_)
      intro u V4 hV4 hu
      obtain rfl := sureBool _ _ _ hu
      refine T.pure (.bool (!r3)) (by kernel_rfl) (fun _ => by kernel_rfl) ?_
      refine T.pure (.bool (!r3)) (by kernel_rfl) (fun _ => by kernel_rfl) ?_
      refine T.nil ?_
      cases hX1
      exact fun a w' hf hh => Exists.intro V4 (And.intro hV4 (And.intro ((((((((Fr.nil hf).pick hf 42 rfl).pick hf 8 rfl).pick hf 7 rfl).pick hf 5 rfl).pick hf 4 rfl).pick hf 3 rfl).pick hf 0 rfl) (hh.sub (.cons _ (.cons _ (.cons_cons _ (.cons_cons _ List.Sublist.slnil)))))))
    ·
      skip
      rw [hg1, cond_true] at hX1
      refine T.pass (by kernel_rfl) (by kernel_rfl) ?_
      refine T.pass (by kernel_rfl) (by kernel_rfl) ?_
      refine T.pass (by kernel_rfl) (by kernel_rfl) ?_
      refine T.pass (by kernel_rfl) (by kernel_rfl) ?_
      refine T.pass (by kernel_rfl) (by kernel_rfl) ?_
      refine T.pass (by kernel_rfl) (by kernel_rfl) ?_
      refine T.pass (by kernel_rfl) (by kernel_rfl) ?_
      refine T.pass (by kernel_rfl) (by kernel_rfl) ?_
      refine T.pure (.bool true) (by kernel_rfl) (fun _ => by kernel_rfl) ?_
      refine T.nil ?_
      cases hX1
      exact fun a w' hf hh => Exists.intro V2 (And.intro (View.le_refl _) (And.intro ((((((((Fr.nil hf).pick hf 42 rfl).pick hf 8 rfl).pick hf 7 rfl).pick hf 5 rfl).pick hf 4 rfl).pick hf 3 rfl).pick hf 0 rfl) (hh.sub (.cons _ (.cons_cons _ (.cons_cons _ List.Sublist.slnil))))))
  ·
    rintro a w' ⟨V3, hV3, hf, hh⟩
    refine (?_ : T 123 w V3 [box b2 24 [.int .i64 p2.pfs, .int .i64 p2.obj, .int .i64 p2.off], box b1 24 [.int .i64 p1.pfs, .int .i64 p1.obj, .int .i64 p1.off]] [(0, .slice A1 p0.length c1), (3, .string p3), (4, .int .i64 p4), (5, .int .i64 p5), (7, .pointer (some ⟨b1, 0, none⟩)), (8, .pointer (some ⟨b2, 0, none⟩)), (42, .bool z1)] _) a w' hf hh
    clear hf hh
    refine T.cond z1 (by kernel_rfl) (by kernel_rfl) (fun hc1 => ?_) (fun hc1 => ?_)
    ·
      rw [hc1, cond_true] at hF
      refine T.seq ?_
      refine T.region ?_
      refine T.pure (.bool false) (by kernel_rfl) (fun _ => by kernel_rfl) ?_
      refine T.nil ?_
      cases hF
      refine T.ret rfl ?_
      exact T.ret1 rfl (ResIs.tmp rfl) fun w' hh => ⟨_, rfl, hh.below, (show _ from rfl)⟩
    ·
      rw [hc1, cond_false] at hF
      refine T.skip_code ?_
      refine T.seq ?_
      refine T.region ?_
      refine T.pure (.slice A1 p0.length c1) (by kernel_rfl) (fun _ => by kernel_rfl) ?_
      refine T.look (.agg #[.int .i64 p1.pfs, .int .i64 p1.obj, .int .i64 p1.off]) (by kernel_rfl) (fun w' hh => exec_loadN (cs := [.int .i64 p1.pfs, .int .i64 p1.obj, .int .i64 p1.off]) rfl rfl (by kernel_rfl) (by kernel_rfl) (fun j u hj => (hh.box_at (i := 1) (cs := [.int .i64 p1.pfs, .int .i64 p1.obj, .int .i64 p1.off]) (by rfl) 0 j).trans (seg_at (n := 3) rfl hj))) ?_
      refine T.pure (.string p3) (by kernel_rfl) (fun _ => by kernel_rfl) ?_
      refine T.pure (.int .i64 p4) (by kernel_rfl) (fun _ => by kernel_rfl) ?_
      obtain ⟨r4, hb4, hF⟩ := Option.bind_eq_some_iff.1 hF
      refine T.step (W1.call (vT2 (vSc (eList eElem)) (vSc eInt)) r4 48 #[.slice A1 p0.length c1, .agg #[.int .i64 p1.pfs, .int .i64 p1.obj, .int .i64 p1.off], .string p3, .int .i64 p4] (by kernel_rfl) (fun _ => by kernel_rfl) (fun w' hh => run_Put_l F p0 p1 p3 p4 r4 hb4 w' A1 c1 (SlOk.mono (SlOk.mono hs1 (View.le_trans (View.le_trans hV1 hV2) hV3)) hh.view)) ?_)
      intro u V5 hV5 hu
      obtain ⟨u3, u4, rfl, hu3, hu4⟩ := vT2_elim hu
      obtain ⟨A3, c3, rfl, hs3⟩ := vlist_elim hu3
      obtain rfl := sureInt _ _ _ hu4
      refine T.pure (.tuple #[.slice A3 r4.1.length c3, .int .i64 r4.2]) (by kernel_rfl) (fun _ => by kernel_rfl) ?_
      refine T.pure (.slice A3 r4.1.length c3) (by kernel_rfl) (fun _ => by kernel_rfl) ?_
      refine T.pure (.int .i64 r4.2) (by kernel_rfl) (fun _ => by kernel_rfl) ?_
      refine T.pure (.slice A3 r4.1.length c3) (by kernel_rfl) (fun _ => by kernel_rfl) ?_
      refine T.pure (.int .i64 r4.2) (by kernel_rfl) (fun _ => by kernel_rfl) ?_
      refine T.nil ?_
      refine T.seq ?_
      refine T.seq ?_
      refine T.region ?_
      refine T.pure (.int .i64 r4.2) (by kernel_rfl) (fun _ => by kernel_rfl) ?_
      refine T.pure (.bool (r4.2 != 0)) (by kernel_rfl) (fun _ => by kernel_rfl) ?_
      refine T.nil ?_
      refine T.cond (r4.2 != 0) (by kernel_rfl) (by kernel_rfl) (fun hc2 => ?_) (fun hc2 => ?_)
      ·
        rw [hc2, cond_true] at hF
        refine T.seq ?_
        refine T.region ?_
        refine T.pure (.slice A3 r4.1.length c3) (by kernel_rfl) (fun _ => by kernel_rfl) ?_
        refine T.pure (.int .i64 (r4.1.length : Int)) (by kernel_rfl) (fun _ => by kernel_rfl) ?_
        refine T.pure (.bool ((r4.1.length : Int) == 0)) (by kernel_rfl) (fun _ => by kernel_rfl) ?_
        refine T.pure (.bool ((r4.1.length : Int) == 0)) (by kernel_rfl) (fun _ => by kernel_rfl) ?_
        refine T.nil ?_
        cases hF
        refine T.ret rfl ?_
        exact T.ret1 rfl (ResIs.tmp rfl) fun w' hh => ⟨_, rfl, hh.below, (show _ from rfl)⟩
      ·
        rw [hc2, cond_false] at hF
        refine T.skip_code ?_
        refine T.seq ?_
        refine T.region ?_
        refine T.pure (.int .i64 p5) (by kernel_rfl) (fun _ => by kernel_rfl) ?_
        refine T.pure (.int .i64 p4) (by kernel_rfl) (fun _ => by kernel_rfl) ?_
        refine T.pure (.int .i64 (IntKind.i64.wrap (p4 - 1))) (by kernel_rfl) (fun _ => by kernel_rfl) ?_
        refine T.pure (.int .i64 (if (IntKind.i64.wrap (p4 - 1)) < p5 then IntKind.i64.wrap (p4 - 1) else p5)) (by kernel_rfl) (fun _ => by kernel_rfl) ?_
        refine T.pure (.int .i64 (if (IntKind.i64.wrap (p4 - 1)) < p5 then IntKind.i64.wrap (p4 - 1) else p5)) (by kernel_rfl) (fun _ => by kernel_rfl) ?_
        refine T.nil ?_
        refine T.seq ?_
        refine T.region ?_
        refine T.pure (.slice A1 p0.length c1) (by kernel_rfl) (fun _ => by kernel_rfl) ?_
        refine T.look (.agg #[.int .i64 p1.pfs, .int .i64 p1.obj, .int .i64 p1.off]) (by kernel_rfl) (fun w' hh => exec_loadN (cs := [.int .i64 p1.pfs, .int .i64 p1.obj, .int .i64 p1.off]) rfl rfl (by kernel_rfl) (by kernel_rfl) (fun j u hj => (hh.box_at (i := 1) (cs := [.int .i64 p1.pfs, .int .i64 p1.obj, .int .i64 p1.off]) (by rfl) 0 j).trans (seg_at (n := 3) rfl hj))) ?_
        refine T.pure (.int .i64 (if (IntKind.i64.wrap (p4 - 1)) < p5 then IntKind.i64.wrap (p4 - 1) else p5)) (by kernel_rfl) (fun _ => by kernel_rfl) ?_
        obtain ⟨r5, hb5, hF⟩ := Option.bind_eq_some_iff.1 hF
        refine T.step (W1.call (vT2 (vAg eElem) (vSc eInt)) r5 44 #[.slice A1 p0.length c1, .agg #[.int .i64 p1.pfs, .int .i64 p1.obj, .int .i64 p1.off], .int .i64 (if (IntKind.i64.wrap (p4 - 1)) < p5 then IntKind.i64.wrap (p4 - 1) else p5)] (by kernel_rfl) (fun _ => by kernel_rfl) (fun w' hh => run_At_l F p0 p1 (if (IntKind.i64.wrap (p4 - 1)) < p5 then IntKind.i64.wrap (p4 - 1) else p5) r5 hb5 w' A1 c1 (SlOk.mono (SlOk.mono hs1 (View.le_trans (View.le_trans (View.le_trans hV1 hV2) hV3) hV5)) hh.view)) ?_)
        intro u V6 hV6 hu
        obtain rfl := (Sure.t2 sureElem sureInt) _ _ _ hu
        refine T.pure (.tuple #[.agg #[.int .i64 r5.1.key.pfs, .int .i64 r5.1.key.obj, .int .i64 r5.1.key.off, .int .i64 r5.1.made, .int .i64 r5.1.gone, .string r5.1.val], .int .i64 r5.2]) (by kernel_rfl) (fun _ => by kernel_rfl) ?_
        refine T.pure (.agg #[.int .i64 r5.1.key.pfs, .int .i64 r5.1.key.obj, .int .i64 r5.1.key.off, .int .i64 r5.1.made, .int .i64 r5.1.gone, .string r5.1.val]) (by kernel_rfl) (fun _ => by kernel_rfl) ?_
        refine T.pure (.int .i64 r5.2) (by kernel_rfl) (fun _ => by kernel_rfl) ?_
        refine T.step (W1.new 26 [.int .i64 0, .int .i64 0, .int .i64 0, .int .i64 0, .int .i64 0, .string (ByteArray.mk #[])] (fun b => .pointer (some ⟨b, 0, none⟩)) (by kernel_rfl) (fun _ => by kernel_rfl) (fun b5 => ?_))
        refine T.step (W1.store 0 [.int .i64 r5.1.key.pfs, .int .i64 r5.1.key.obj, .int .i64 r5.1.key.off, .int .i64 r5.1.made, .int .i64 r5.1.gone, .string r5.1.val] [box b5 26 [.int .i64 r5.1.key.pfs, .int .i64 r5.1.key.obj, .int .i64 r5.1.key.off, .int .i64 r5.1.made, .int .i64 r5.1.gone, .string r5.1.val], box b2 24 [.int .i64 p2.pfs, .int .i64 p2.obj, .int .i64 p2.off], box b1 24 [.int .i64 p1.pfs, .int .i64 p1.obj, .int .i64 p1.off]] (by rfl) rfl (by kernel_rfl) (fun w' hw => exec_store (vs := [.int .i64 r5.1.key.pfs, .int .i64 r5.1.key.obj, .int .i64 r5.1.key.off, .int .i64 r5.1.made, .int .i64 r5.1.gone, .string r5.1.val]) rfl rfl rfl rfl (by kernel_rfl) (one_of rfl) (by simp) rfl hw) ?_)
        refine T.pure (.int .i64 r5.2) (by kernel_rfl) (fun _ => by kernel_rfl) ?_
        refine T.nil ?_
        refine T.seq ?_
        refine T.region ?_
        refine T.pure (.slice A3 r4.1.length c3) (by kernel_rfl) (fun _ => by kernel_rfl) ?_
        refine T.look (.agg #[.int .i64 p1.pfs, .int .i64 p1.obj, .int .i64 p1.off]) (by kernel_rfl) (fun w' hh => exec_loadN (cs := [.int .i64 p1.pfs, .int .i64 p1.obj, .int .i64 p1.off]) rfl rfl (by kernel_rfl) (by kernel_rfl) (fun j u hj => (hh.box_at (i := 2) (cs := [.int .i64 p1.pfs, .int .i64 p1.obj, .int .i64 p1.off]) (by rfl) 0 j).trans (seg_at (n := 3) rfl hj))) ?_
        refine T.pure (.int .i64 (if (IntKind.i64.wrap (p4 - 1)) < p5 then IntKind.i64.wrap (p4 - 1) else p5)) (by kernel_rfl) (fun _ => by kernel_rfl) ?_
        obtain ⟨r6, hb6, hF⟩ := Option.bind_eq_some_iff.1 hF
        refine T.step (W1.call (vT2 (vAg eElem) (vSc eInt)) r6 44 #[.slice A3 r4.1.length c3, .agg #[.int .i64 p1.pfs, .int .i64 p1.obj, .int .i64 p1.off], .int .i64 (if (IntKind.i64.wrap (p4 - 1)) < p5 then IntKind.i64.wrap (p4 - 1) else p5)] (by kernel_rfl) (fun _ => by kernel_rfl) (fun w' hh => run_At_l F r4.1 p1 (if (IntKind.i64.wrap (p4 - 1)) < p5 then IntKind.i64.wrap (p4 - 1) else p5) r6 hb6 w' A3 c3 (SlOk.mono (SlOk.mono hs3 (View.le_trans (made_le _ _) hV6)) hh.view)) ?_)
        intro u V7 hV7 hu
        obtain rfl := (Sure.t2 sureElem sureInt) _ _ _ hu
        refine T.pure (.tuple #[.agg #[.int .i64 r6.1.key.pfs, .int .i64 r6.1.key.obj, .int .i64 r6.1.key.off, .int .i64 r6.1.made, .int .i64 r6.1.gone, .string r6.1.val], .int .i64 r6.2]) (by kernel_rfl) (fun _ => by kernel_rfl) ?_
        refine T.pure (.agg #[.int .i64 r6.1.key.pfs, .int .i64 r6.1.key.obj, .int .i64 r6.1.key.off, .int .i64 r6.1.made, .int .i64 r6.1.gone, .string r6.1.val]) (by kernel_rfl) (fun _ => by kernel_rfl) ?_
        refine T.pure (.int .i64 r6.2) (by kernel_rfl) (fun _ => by kernel_rfl) ?_
        refine T.step (W1.new 26 [.int .i64 0, .int .i64 0, .int .i64 0, .int .i64 0, .int .i64 0, .string (ByteArray.mk #[])] (fun b => .pointer (some ⟨b, 0, none⟩)) (by kernel_rfl) (fun _ => by kernel_rfl) (fun b6 => ?_))
        refine T.step (W1.store 0 [.int .i64 r6.1.key.pfs, .int .i64 r6.1.key.obj, .int .i64 r6.1.key.off, .int .i64 r6.1.made, .int .i64 r6.1.gone, .string r6.1.val] [box b6 26 [.int .i64 r6.1.key.pfs, .int .i64 r6.1.key.obj, .int .i64 r6.1.key.off, .int .i64 r6.1.made, .int .i64 r6.1.gone, .string r6.1.val], box b5 26 [.int .i64 r5.1.key.pfs, .int .i64 r5.1.key.obj, .int .i64 r5.1.key.off, .int .i64 r5.1.made, .int .i64 r5.1.gone, .string r5.1.val], box b2 24 [.int .i64 p2.pfs, .int .i64 p2.obj, .int .i64 p2.off], box b1 24 [.int .i64 p1.pfs, .int .i64 p1.obj, .int .i64 p1.off]] (by rfl) rfl (by kernel_rfl) (fun w' hw => exec_store (vs := [.int .i64 r6.1.key.pfs, .int .i64 r6.1.key.obj, .int .i64 r6.1.key.off, .int .i64 r6.1.made, .int .i64 r6.1.gone, .string r6.1.val]) rfl rfl rfl rfl (by kernel_rfl) (one_of rfl) (by simp) rfl hw) ?_)
        refine T.pure (.int .i64 r6.2) (by kernel_rfl) (fun _ => by kernel_rfl) ?_
        refine T.nil ?_
        refine T.seq ?_
        refine T.region ?_
        refine T.pure (.slice A1 p0.length c1) (by kernel_rfl) (fun _ => by kernel_rfl) ?_
        refine T.look (.agg #[.int .i64 p2.pfs, .int .i64 p2.obj, .int .i64 p2.off]) (by kernel_rfl) (fun w' hh => exec_loadN (cs := [.int .i64 p2.pfs, .int .i64 p2.obj, .int .i64 p2.off]) rfl rfl (by kernel_rfl) (by kernel_rfl) (fun j u hj => (hh.box_at (i := 2) (cs := [.int .i64 p2.pfs, .int .i64 p2.obj, .int .i64 p2.off]) (by rfl) 0 j).trans (seg_at (n := 3) rfl hj))) ?_
        refine T.pure (.int .i64 p4) (by kernel_rfl) (fun _ => by kernel_rfl) ?_
        obtain ⟨r7, hb7, hF⟩ := Option.bind_eq_some_iff.1 hF
        refine T.step (W1.call (vT2 (vAg eElem) (vSc eInt)) r7 44 #[.slice A1 p0.length c1, .agg #[.int .i64 p2.pfs, .int .i64 p2.obj, .int .i64 p2.off], .int .i64 p4] (by kernel_rfl) (fun _ => by kernel_rfl) (fun w' hh => run_At_l F p0 p2 p4 r7 hb7 w' A1 c1 (SlOk.mono (SlOk.mono hs1 (View.le_trans (View.le_trans (View.le_trans (View.le_trans (View.le_trans hV1 hV2) hV3) hV5) hV6) hV7)) hh.view)) ?_)
        intro u V8 hV8 hu
        obtain rfl := (Sure.t2 sureElem sureInt) _ _ _ hu
        refine T.pure (.tuple #[.agg #[.int .i64 r7.1.key.pfs, .int .i64 r7.1.key.obj, .int .i64 r7.1.key.off, .int .i64 r7.1.made, .int .i64 r7.1.gone, .string r7.1.val], .int .i64 r7.2]) (by kernel_rfl) (fun _ => by kernel_rfl) ?_
        refine T.pure (.agg #[.int .i64 r7.1.key.pfs, .int .i64 r7.1.key.obj, .int .i64 r7.1.key.off, .int .i64 r7.1.made, .int .i64 r7.1.gone, .string r7.1.val]) (by kernel_rfl) (fun _ => by kernel_rfl) ?_
        refine T.pure (.int .i64 r7.2) (by kernel_rfl) (fun _ => by kernel_rfl) ?_
        refine T.step (W1.new 26 [.int .i64 0, .int .i64 0, .int .i64 0, .int .i64 0, .int .i64 0, .string (ByteArray.mk #[])] (fun b => .pointer (some ⟨b, 0, none⟩)) (by kernel_rfl) (fun _ => by kernel_rfl) (fun b7 => ?_))
        refine T.step (W1.store 0 [.int .i64 r7.1.key.pfs, .int .i64 r7.1.key.obj, .int .i64 r7.1.key.off, .int .i64 r7.1.made, .int .i64 r7.1.gone, .string r7.1.val] [box b7 26 [.int .i64 r7.1.key.pfs, .int .i64 r7.1.key.obj, .int .i64 r7.1.key.off, .int .i64 r7.1.made, .int .i64 r7.1.gone, .string r7.1.val], box b6 26 [.int .i64 r6.1.key.pfs, .int .i64 r6.1.key.obj, .int .i64 r6.1.key.off, .int .i64 r6.1.made, .int .i64 r6.1.gone, .string r6.1.val], box b5 26 [.int .i64 r5.1.key.pfs, .int .i64 r5.1.key.obj, .int .i64 r5.1.key.off, .int .i64 r5.1.made, .int .i64 r5.1.gone, .string r5.1.val], box b2 24 [.int .i64 p2.pfs, .int .i64 p2.obj, .int .i64 p2.off], box b1 24 [.int .i64 p1.pfs, .int .i64 p1.obj, .int .i64 p1.off]] (by rfl) rfl (by kernel_rfl) (fun w' hw => exec_store (vs := [.int .i64 r7.1.key.pfs, .int .i64 r7.1.key.obj, .int .i64 r7.1.key.off, .int .i64 r7.1.made, .int .i64 r7.1.gone, .string r7.1.val]) rfl rfl rfl rfl (by kernel_rfl) (one_of rfl) (by simp) rfl hw) ?_)
        refine T.pure (.int .i64 r7.2) (by kernel_rfl) (fun _ => by kernel_rfl) ?_
        refine T.nil ?_
        refine T.seq ?_
        refine T.region ?_
        refine T.pure (.slice A3 r4.1.length c3) (by kernel_rfl) (fun _ => by kernel_rfl) ?_
        refine T.look (.agg #[.int .i64 p2.pfs, .int .i64 p2.obj, .int .i64 p2.off]) (by kernel_rfl) (fun w' hh => exec_loadN (cs := [.int .i64 p2.pfs, .int .i64 p2.obj, .int .i64 p2.off]) rfl rfl (by kernel_rfl) (by kernel_rfl) (fun j u hj => (hh.box_at (i := 3) (cs := [.int .i64 p2.pfs, .int .i64 p2.obj, .int .i64 p2.off]) (by rfl) 0 j).trans (seg_at (n := 3) rfl hj))) ?_
        refine T.pure (.int .i64 p4) (by kernel_rfl) (fun _ => by kernel_rfl) ?_
        obtain ⟨r8, hb8, hF⟩ := Option.bind_eq_some_iff.1 hF
        refine T.step (W1.call (vT2 (vAg eElem) (vSc eInt)) r8 44 #[.slice A3 r4.1.length c3, .agg #[.int .i64 p2.pfs, .int .i64 p2.obj, .int .i64 p2.off], .int .i64 p4] (by kernel_rfl) (fun _ => by kernel_rfl) (fun w' hh => run_At_l F r4.1 p2 p4 r8 hb8 w' A3 c3 (SlOk.mono (SlOk.mono hs3 (View.le_trans (made_le _ _) (View.le_trans (View.le_trans hV6 hV7) hV8))) hh.view)) ?_)
        intro u V9 hV9 hu
        obtain rfl := (Sure.t2 sureElem sureInt) _ _ _ hu
        refine T.pure (.tuple #[.agg #[.int .i64 r8.1.key.pfs, .int .i64 r8.1.key.obj, .int .i64 r8.1.key.off, .int .i64 r8.1.made, .int .i64 r8.1.gone, .string r8.1.val], .int .i64 r8.2]) (by kernel_rfl) (fun _ => by kernel_rfl) ?_
        refine T.pure (.agg #[.int .i64 r8.1.key.pfs, .int .i64 r8.1.key.obj, .int .i64 r8.1.key.off, .int .i64 r8.1.made, .int .i64 r8.1.gone, .string r8.1.val]) (by kernel_rfl) (fun _ => by kernel_rfl) ?_
        refine T.pure (.int .i64 r8.2) (by kernel_rfl) (fun _ => by kernel_rfl) ?_
        refine T.step (W1.new 26 [.int .i64 0, .int .i64 0, .int .i64 0, .int .i64 0, .int .i64 0, .string (ByteArray.mk #[])] (fun b => .pointer (some ⟨b, 0, none⟩)) (by kernel_rfl) (fun _ => by kernel_rfl) (fun b8 => ?_))
        refine T.step (W1.store 0 [.int .i64 r8.1.key.pfs, .int .i64 r8.1.key.obj, .int .i64 r8.1.key.off, .int .i64 r8.1.made, .int .i64 r8.1.gone, .string r8.1.val] [box b8 26 [.int .i64 r8.1.key.pfs, .int .i64 r8.1.key.obj, .int .i64 r8.1.key.off, .int .i64 r8.1.made, .int .i64 r8.1.gone, .string r8.1.val], box b7 26 [.int .i64 r7.1.key.pfs, .int .i64 r7.1.key.obj, .int .i64 r7.1.key.off, .int .i64 r7.1.made, .int .i64 r7.1.gone, .string r7.1.val], box b6 26 [.int .i64 r6.1.key.pfs, .int .i64 r6.1.key.obj, .int .i64 r6.1.key.off, .int .i64 r6.1.made, .int .i64 r6.1.gone, .string r6.1.val], box b5 26 [.int .i64 r5.1.key.pfs, .int .i64 r5.1.key.obj, .int .i64 r5.1.key.off, .int .i64 r5.1.made, .int .i64 r5.1.gone, .string r5.1.val], box b2 24 [.int .i64 p2.pfs, .int .i64 p2.obj, .int .i64 p2.off], box b1 24 [.int .i64 p1.pfs, .int .i64 p1.obj, .int .i64 p1.off]] (by rfl) rfl (by kernel_rfl) (fun w' hw => exec_store (vs := [.int .i64 r8.1.key.pfs, .int .i64 r8.1.key.obj, .int .i64 r8.1.key.off, .int .i64 r8.1.made, .int .i64 r8.1.gone, .string r8.1.val]) rfl rfl rfl rfl (by kernel_rfl) (one_of rfl) (by simp) rfl hw) ?_)
        refine T.pure (.int .i64 r8.2) (by kernel_rfl) (fun _ => by kernel_rfl) ?_
        refine T.nil ?_
        refine T.seq ?_
        obtain ⟨z2, hX2, hF⟩ := Option.bind_eq_some_iff.1 hF
        refine T.cut (fun a w' => ∃ (V10 : View), View.le V9 V10 ∧ Fr 123 [(7, .pointer (some ⟨b1, 0, none⟩)), (8, .pointer (some ⟨b2, 0, none⟩)), (20, .pointer (some ⟨b7, 0, none⟩)), (21, .int .i64 r7.2), (22, .pointer (some ⟨b8, 0, none⟩)), (23, .int .i64 r8.2), (109, .bool z2)] a ∧ Hp w V10 [box b8 26 [.int .i64 r8.1.key.pfs, .int .i64 r8.1.key.obj, .int .i64 r8.1.key.off, .int .i64 r8.1.made, .int .i64 r8.1.gone, .string r8.1.val], box b7 26 [.int .i64 r7.1.key.pfs, .int .i64 r7.1.key.obj, .int .i64 r7.1.key.off, .int .i64 r7.1.made, .int .i64 r7.1.gone, .string r7.1.val], box b2 24 [.int .i64 p2.pfs, .int .i64 p2.obj, .int .i64 p2.off], box b1 24 [.int .i64 p1.pfs, .int .i64 p1.obj, .int .i64 p1.off]] w') ?_ ?_
        ·
          refine T.region ?_
          refine T.pure (.slice A3 r4.1.length c3) (by kernel_rfl) (fun _ => by kernel_rfl) ?_
          obtain ⟨r9, hb9, hX2⟩ := Option.bind_eq_some_iff.1 hX2
          refine T.step (W1.call (vSc eInt) r9 30 #[.slice A3 r4.1.length c3] (by kernel_rfl) (fun _ => by kernel_rfl) (fun w' hh => run_Check_l F r4.1 r9 hb9 w' A3 c3 (SlOk.mono (SlOk.mono hs3 (View.le_trans (made_le _ _) (View.le_trans (View.le_trans (View.le_trans hV6 hV7) hV8) hV9))) hh.view)) ?_)
          intro u V11 hV11 hu
          obtain rfl := sureInt _ _ _ hu
          refine T.pure (.bool (r9 != 0)) (by kernel_rfl) (fun _ => by kernel_rfl) ?_
          refine T.pure (.bool (r9 != 0)) (by kernel_rfl) (fun _ => by kernel_rfl) ?_
          cases hg2 : (r9 != 0)
          ·
            skip
            rw [hg2, cond_false] at hX2
            refine T.pure (.int .i64 r5.2) (by kernel_rfl) (fun _ => by kernel_rfl) ?_
            refine T.pure (.int .i64 r6.2) (by kernel_rfl) (fun _ => by kernel_rfl) ?_
            refine T.pure (.bool (r5.2 != r6.2)) (by kernel_rfl) (fun _ => by kernel_rfl) ?_
            refine T.pure (.bool (r5.2 != r6.2)) (by kernel_rfl) (fun _ => by kernel_rfl) ?_
            refine T.pure (.bool (r5.2 != r6.2)) (by kernel_rfl) (fun _ => by kernel_rfl) ?_
            cases hg3 : (r5.2 != r6.2)
            ·
              skip
              rw [hg3, cond_false] at hX2
              refine T.pure (.pointer (some ⟨b5, 5, none⟩)) (by kernel_rfl) (fun _ => by kernel_rfl) ?_
              refine T.look (.string r5.1.val) (by kernel_rfl) (fun w' hh => exec_load1 rfl rfl (by kernel_rfl) (hh.cellBox (i := 3) (by rfl) 5)) ?_
              refine T.pure (.pointer (some ⟨b6, 5, none⟩)) (by kernel_rfl) (fun _ => by kernel_rfl) ?_
              refine T.look (.string r6.1.val) (by kernel_rfl) (fun w' hh => exec_load1 rfl rfl (by kernel_rfl) (hh.cellBox (i := 2) (by rfl) 5)) ?_
              refine T.pure (.bool (!(seq r5.1.val r6.1.val))) (by kernel_rfl) (fun _ => by kernel_rfl) ?_
              refine T.pure (.bool (!(seq r5.1.val r6.1.val))) (by kernel_rfl) (fun _ => by kernel_rfl) ?_
              refine T.pure (.bool (!(seq r5.1.val r6.1.val))) (by kernel_rfl) (fun _ => by kernel_rfl) ?_
              cases hg4 : (!(seq r5.1.val r6.1.val))
              ·
                skip
                rw [hg4, cond_false] at hX2
                refine T.pure (.pointer (some ⟨b5, 3, none⟩)) (by kernel_rfl) (fun _ => by kernel_rfl) ?_
                refine T.look (.int .i64 r5.1.made) (by kernel_rfl) (fun w' hh => exec_load1 rfl rfl (by kernel_rfl) (hh.cellBox (i := 3) (by rfl) 3)) ?_
                refine T.pure (.pointer (some ⟨b6, 3, none⟩)) (by kernel_rfl) (fun _ => by kernel_rfl) ?_
                refine T.look (.int .i64 r6.1.made) (by kernel_rfl) (fun w' hh => exec_load1 rfl rfl (by kernel_rfl) (hh.cellBox (i := 2) (by rfl) 3)) ?_
                refine T.pure (.bool (r5.1.made != r6.1.made)) (by kernel_rfl) (fun _ => by kernel_rfl) ?_
                refine T.pure (.bool (r5.1.made != r6.1.made)) (by kernel_rfl) (fun _ => by kernel_rfl) ?_
                refine T.nil ?_
                cases hX2
                exact fun a w' hf hh => Exists.intro V11 (And.intro hV11 (And.intro ((((((((Fr.nil hf).pick hf 109 rfl).pick hf 23 rfl).pick hf 22 rfl).pick hf 21 rfl).pick hf 20 rfl).pick hf 8 rfl).pick hf 7 rfl) (hh.sub (.cons_cons _ (.cons_cons _ (.cons _ (.cons _ (.cons_cons _ (.cons_cons _ List.Sublist.slnil)))))))))
              ·
                skip
                rw [hg4, cond_true] at hX2
                refine T.pass (by kernel_rfl) (by kernel_rfl) ?_
                refine T.pass (by kernel_rfl) (by kernel_rfl) ?_
                refine T.pass (by kernel_rfl) (by kernel_rfl) ?_
                refine T.pass (by kernel_rfl) (by kernel_rfl) ?_
                refine T.pass (by kernel_rfl) (by kernel_rfl) ?_
                refine T.pure (.bool true) (by kernel_rfl) (fun _ => by kernel_rfl) ?_
                refine T.nil ?_
                cases hX2
                exact fun a w' hf hh => Exists.intro V11 (And.intro hV11 (And.intro ((((((((Fr.nil hf).pick hf 109 rfl).pick hf 23 rfl).pick hf 22 rfl).pick hf 21 rfl).pick hf 20 rfl).pick hf 8 rfl).pick hf 7 rfl) (hh.sub (.cons_cons _ (.cons_cons _ (.cons _ (.cons _ (.cons_cons _ (.cons_cons _ List.Sublist.slnil)))))))))
            ·
              skip
              rw [hg3, cond_true] at hX2
              refine T.pass (by kernel_rfl) (by kernel_rfl) ?_
              refine T.pass (by kernel_rfl) (by kernel_rfl) ?_
              refine T.pass (by kernel_rfl) (by kernel_rfl) ?_
              refine T.pass (by kernel_rfl) (by kernel_rfl) ?_
              refine T.pass (by kernel_rfl) (by kernel_rfl) ?_
              refine T.pure (.bool true) (by kernel_rfl) (fun _ => by kernel_rfl) ?_
              refine T.pure (.bool true) (by kernel_rfl) (fun _ => by kernel_rfl) ?_
              refine T.pass (by kernel_rfl) (by kernel_rfl) ?_
              refine T.pass (by kernel_rfl) (by kernel_rfl) ?_
              refine T.pass (by kernel_rfl) (by kernel_rfl) ?_
              refine T.pass (by kernel_rfl) (by kernel_rfl) ?_
              refine T.pass (by kernel_rfl) (by kernel_rfl) ?_
              refine T.pure (.bool true) (by kernel_rfl) (fun _ => by kernel_rfl) ?_
              refine T.nil ?_
              cases hX2
              exact fun a w' hf hh => Exists.intro V11 (And.intro hV11 (And.intro ((((((((Fr.nil hf).pick hf 109 rfl).pick hf 23 rfl).pick hf 22 rfl).pick hf 21 rfl).pick hf 20 rfl).pick hf 8 rfl).pick hf 7 rfl) (hh.sub (.cons_cons _ (.cons_cons _ (.cons _ (.cons _ (.cons_cons _ (.cons_cons _ List.Sublist.slnil)))))))))
          ·
            skip
            rw [hg2, cond_true] at hX2
            refine T.pass (by kernel_rfl) (by kernel_rfl) ?_
            refine T.pass (by kernel_rfl) (by kernel_rfl) ?_
            refine T.pass (by kernel_rfl) (by kernel_rfl) ?_
            refine T.pure (.bool true) (by kernel_rfl) (fun _ => by kernel_rfl) ?_
            refine T.pure (.bool true) (by kernel_rfl) (fun _ => by kernel_rfl) ?_
            refine T.pass (by kernel_rfl) (by kernel_rfl) ?_
            refine T.pass (by kernel_rfl) (by kernel_rfl) ?_
            refine T.pass (by kernel_rfl) (by kernel_rfl) ?_
            refine T.pass (by kernel_rfl) (by kernel_rfl) ?_
            refine T.pass (by kernel_rfl) (by kernel_rfl) ?_
            refine T.pure (.bool true) (by kernel_rfl) (fun _ => by kernel_rfl) ?_
            refine T.pure (.bool true) (by kernel_rfl) (fun _ => by kernel_rfl) ?_
            refine T.pass (by kernel_rfl) (by kernel_rfl) ?_
            refine T.pass (by kernel_rfl) (by kernel_rfl) ?_
            refine T.pass (by kernel_rfl) (by kernel_rfl) ?_
            refine T.pass (by kernel_rfl) (by kernel_rfl) ?_
            refine T.pass (by kernel_rfl) (by kernel_rfl) ?_
            refine T.pure (.bool true) (by kernel_rfl) (fun _ => by kernel_rfl) ?_
            refine T.nil ?_
            cases hX2
            exact fun a w' hf hh => Exists.intro V11 (And.intro hV11 (And.intro ((((((((Fr.nil hf).pick hf 109 rfl).pick hf 23 rfl).pick hf 22 rfl).pick hf 21 rfl).pick hf 20 rfl).pick hf 8 rfl).pick hf 7 rfl) (hh.sub (.cons_cons _ (.cons_cons _ (.cons _ (.cons _ (.cons_cons _ (.cons_cons _ List.Sublist.slnil)))))))))
        ·
          rintro a w' ⟨V10, hV10, hf, hh⟩
          refine (?_ : T 123 w V10 [box b8 26 [.int .i64 r8.1.key.pfs, .int .i64 r8.1.key.obj, .int .i64 r8.1.key.off, .int .i64 r8.1.made, .int .i64 r8.1.gone, .string r8.1.val], box b7 26 [.int .i64 r7.1.key.pfs, .int .i64 r7.1.key.obj, .int .i64 r7.1.key.off, .int .i64 r7.1.made, .int .i64 r7.1.gone, .string r7.1.val], box b2 24 [.int .i64 p2.pfs, .int .i64 p2.obj, .int .i64 p2.off], box b1 24 [.int .i64 p1.pfs, .int .i64 p1.obj, .int .i64 p1.off]] [(7, .pointer (some ⟨b1, 0, none⟩)), (8, .pointer (some ⟨b2, 0, none⟩)), (20, .pointer (some ⟨b7, 0, none⟩)), (21, .int .i64 r7.2), (22, .pointer (some ⟨b8, 0, none⟩)), (23, .int .i64 r8.2), (109, .bool z2)] _) a w' hf hh
          clear hf hh
          refine T.cond z2 (by kernel_rfl) (by kernel_rfl) (fun hc3 => ?_) (fun hc3 => ?_)
          ·
            rw [hc3, cond_true] at hF
            refine T.seq ?_
            refine T.region ?_
            refine T.pure (.bool false) (by kernel_rfl) (fun _ => by kernel_rfl) ?_
            refine T.nil ?_
            cases hF
            refine T.ret rfl ?_
            exact T.ret1 rfl (ResIs.tmp rfl) fun w' hh => ⟨_, rfl, hh.below, (show _ from rfl)⟩
          ·
            rw [hc3, cond_false] at hF
            refine T.skip_code ?_
            refine T.cut (fun a w' => Fr 123 [(12, .bool ((p2 == p1) || ((r7.2 == r8.2) && (r7.1 == r8.1))))] a ∧ Hp w V10 [] w') ?_ ?_
            ·
              refine T.region ?_
              refine T.look (.agg #[.int .i64 p2.pfs, .int .i64 p2.obj, .int .i64 p2.off]) (by kernel_rfl) (fun w' hh => exec_loadN (cs := [.int .i64 p2.pfs, .int .i64 p2.obj, .int .i64 p2.off]) rfl rfl (by kernel_rfl) (by kernel_rfl) (fun j u hj => (hh.box_at (i := 2) (cs := [.int .i64 p2.pfs, .int .i64 p2.obj, .int .i64 p2.off]) (by rfl) 0 j).trans (seg_at (n := 3) rfl hj))) ?_
              refine T.look (.agg #[.int .i64 p1.pfs, .int .i64 p1.obj, .int .i64 p1.off]) (by kernel_rfl) (fun w' hh => exec_loadN (cs := [.int .i64 p1.pfs, .int .i64 p1.obj, .int .i64 p1.off]) rfl rfl (by kernel_rfl) (by kernel_rfl) (fun j u hj => (hh.box_at (i := 3) (cs := [.int .i64 p1.pfs, .int .i64 p1.obj, .int .i64 p1.off]) (by rfl) 0 j).trans (seg_at (n := 3) rfl hj))) ?_
              refine T.look (.bool (p2 == p1)) (by kernel_rfl) (fun w' hh => exec_eql_DKey p2 p1 w' rfl rfl rfl) ?_
              refine T.pure (.bool (p2 == p1)) (by kernel_rfl) (fun _ => by kernel_rfl) ?_
              cases hg5 : (p2 == p1)
              ·
                skip
                refine T.pure (.int .i64 r7.2) (by kernel_rfl) (fun _ => by kernel_rfl) ?_
                refine T.pure (.int .i64 r8.2) (by kernel_rfl) (fun _ => by kernel_rfl) ?_
                refine T.pure (.bool (r7.2 == r8.2)) (by kernel_rfl) (fun _ => by kernel_rfl) ?_
                refine T.pure (.bool (r7.2 == r8.2)) (by kernel_rfl) (fun _ => by kernel_rfl) ?_
                cases hg6 : (r7.2 == r8.2)
                ·
                  skip
                  refine T.pass (by kernel_rfl) (by kernel_rfl) ?_
                  refine T.pass (by kernel_rfl) (by kernel_rfl) ?_
                  refine T.pass (by kernel_rfl) (by kernel_rfl) ?_
                  refine T.pure (.bool false) (by kernel_rfl) (fun _ => by kernel_rfl) ?_
                  refine T.pure (.bool false) (by kernel_rfl) (fun _ => by kernel_rfl) ?_
                  refine T.pure (.bool false) (by kernel_rfl) (fun _ => by kernel_rfl) ?_
                  refine T.nil ?_
                  exact fun a w' hf hh => And.intro ((Fr.nil hf).pick hf 12 rfl) (hh.sub (.cons _ (.cons _ (.cons _ (.cons _ List.Sublist.slnil)))))
                ·
                  skip
                  refine T.look (.agg #[.int .i64 r7.1.key.pfs, .int .i64 r7.1.key.obj, .int .i64 r7.1.key.off, .int .i64 r7.1.made, .int .i64 r7.1.gone, .string r7.1.val]) (by kernel_rfl) (fun w' hh => exec_loadN (cs := [.int .i64 r7.1.key.pfs, .int .i64 r7.1.key.obj, .int .i64 r7.1.key.off, .int .i64 r7.1.made, .int .i64 r7.1.gone, .string r7.1.val]) rfl rfl (by kernel_rfl) (by kernel_rfl) (fun j u hj => (hh.box_at (i := 1) (cs := [.int .i64 r7.1.key.pfs, .int .i64 r7.1.key.obj, .int .i64 r7.1.key.off, .int .i64 r7.1.made, .int .i64 r7.1.gone, .string r7.1.val]) (by rfl) 0 j).trans (seg_at (n := 6) rfl hj))) ?_
                  refine T.look (.agg #[.int .i64 r8.1.key.pfs, .int .i64 r8.1.key.obj, .int .i64 r8.1.key.off, .int .i64 r8.1.made, .int .i64 r8.1.gone, .string r8.1.val]) (by kernel_rfl) (fun w' hh => exec_loadN (cs := [.int .i64 r8.1.key.pfs, .int .i64 r8.1.key.obj, .int .i64 r8.1.key.off, .int .i64 r8.1.made, .int .i64 r8.1.gone, .string r8.1.val]) rfl rfl (by kernel_rfl) (by kernel_rfl) (fun j u hj => (hh.box_at (i := 0) (cs := [.int .i64 r8.1.key.pfs, .int .i64 r8.1.key.obj, .int .i64 r8.1.key.off, .int .i64 r8.1.made, .int .i64 r8.1.gone, .string r8.1.val]) (by rfl) 0 j).trans (seg_at (n := 6) rfl hj))) ?_
                  refine T.look (.bool (r7.1 == r8.1)) (by kernel_rfl) (fun w' hh => exec_eql_DElem r7.1 r8.1 w' rfl rfl rfl) ?_
                  refine T.pure (.bool (r7.1 == r8.1)) (by kernel_rfl) (fun _ => by kernel_rfl) ?_
                  refine T.pure (.bool (r7.1 == r8.1)) (by kernel_rfl) (fun _ => by kernel_rfl) ?_
                  refine T.pure (.bool (r7.1 == r8.1)) (by kernel_rfl) (fun _ => by kernel_rfl) ?_
                  refine T.nil ?_
                  exact fun a w' hf hh => And.intro ((Fr.nil hf).pick hf 12 rfl) (hh.sub (.cons _ (.cons _ (.cons _ (.cons _ List.Sublist.slnil)))))
              ·
                skip
                refine T.pass (by kernel_rfl) (by kernel_rfl) ?_
                refine T.pass (by kernel_rfl) (by kernel_rfl) ?_
                refine T.pass (by kernel_rfl) (by kernel_rfl) ?_
                refine T.pass (by kernel_rfl) (by kernel_rfl) ?_
                refine T.pass (by kernel_rfl) (by kernel_rfl) ?_
                refine T.pass (by kernel_rfl) (by kernel_rfl) ?_
                refine T.pass (by kernel_rfl) (by kernel_rfl) ?_
                refine T.pass (by kernel_rfl) (by kernel_rfl) ?_
                refine T.pure (.bool true) (by kernel_rfl) (fun _ => by kernel_rfl) ?_
                refine T.pure (.bool true) (by kernel_rfl) (fun _ => by kernel_rfl) ?_
                refine T.nil ?_
                exact fun a w' hf hh => And.intro ((Fr.nil hf).pick hf 12 rfl) (hh.sub (.cons _ (.cons _ (.cons _ (.cons _ List.Sublist.slnil)))))
            ·
              rintro a w' ⟨hf, hh⟩
              refine (?_ : T 123 w V10 [] [(12, .bool ((p2 == p1) || ((r7.2 == r8.2) && (r7.1 == r8.1))))] _) a w' hf hh
              clear hf hh
              cases hF
              refine T.ret rfl ?_
              exact T.ret1 rfl (ResIs.tmp rfl) fun w' hh => ⟨_, rfl, hh.below, (show _ from rfl)⟩

end Go.Proofs.Ytiaoncjkfgebdaa
