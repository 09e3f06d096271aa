/- The Go functions of group WStreamThen compute the pure functions of that group: written by walkgen.py. Condition of each: the pure function yields a result. -/
import Derived.Test.YtldlakjemifdmaaStreamL
import Derived.Test.YtldlakjemifdmaaEqsL
import Derived.Test.YtldlakjemifdmaaWStreamThenF
import Derived.Test.YtldlakjemifdmaaEqL
namespace Go.Proofs.Ytldlakjemifdmaa
set_option linter.unusedVariables false

set_option maxRecDepth 100000 in
set_option maxHeartbeats 4000000 in
theorem annalkeep_StreamThen_l (F : Nat) (p0 : (List DElem)) (p1 : Int) (p2 : Int) (p3 : Int) (p4 : DKey) (r : Bool) (hF : annalkeep_StreamThen F p0 p1 p2 p3 p4 = some r) (w : World) (A1 : Option Addr) (c1 : Nat) (hs1 : SlOk (vw w) eElem A1 c1 p0) :
    Calls Try.prog 4 #[.slice A1 p0.length c1, .int .i64 p1, .int .i64 p2, .int .i64 p3, .agg #[.int .i64 p4.pfs, .int .i64 p4.obj, .int .i64 p4.off]] w (Post (vSc eBool) r w) := by
  unfold annalkeep_StreamThen at hF
  refine T.start (l := [.slice A1 p0.length c1, .int .i64 p1, .int .i64 p2, .int .i64 p3, .agg #[.int .i64 p4.pfs, .int .i64 p4.obj, .int .i64 p4.off]]) Try.func4 rfl rfl rfl ?_
  refine T.seq ?_
  refine T.region ?_
  refine T.step (W1.new 32 [.int .i64 p4.pfs, .int .i64 p4.obj, .int .i64 p4.off] (fun b => .pointer (some ⟨b, 0, none⟩)) (by kernel_rfl) (fun _ => by kernel_rfl) (fun b1 => ?_))
  refine T.pure (.bool false) (by kernel_rfl) (fun _ => by kernel_rfl) ?_
  refine T.nil ?_
  refine T.seq ?_
  refine T.region ?_
  refine T.pure (.agg #[.int .i64 0, .int .i64 0, .int .i64 0, .int .i64 1, .int .i64 3, .string (ByteArray.mk #[])]) (by kernel_rfl) (fun _ => by kernel_rfl) ?_
  refine T.step (W1.new 34 [.int .i64 0, .int .i64 0, .int .i64 0, .int .i64 0, .int .i64 0, .string (ByteArray.mk #[])] (fun b => .pointer (some ⟨b, 0, none⟩)) (by kernel_rfl) (fun _ => by kernel_rfl) (fun b2 => ?_))
  refine T.step (W1.store 0 [.int .i64 0, .int .i64 0, .int .i64 0, .int .i64 1, .int .i64 3, .string (ByteArray.mk #[])] [box b2 34 [.int .i64 0, .int .i64 0, .int .i64 0, .int .i64 1, .int .i64 3, .string (ByteArray.mk #[])], box b1 32 [.int .i64 p4.pfs, .int .i64 p4.obj, .int .i64 p4.off]] (by rfl) rfl (by kernel_rfl) (fun w' hw => exec_store (vs := [.int .i64 0, .int .i64 0, .int .i64 0, .int .i64 1, .int .i64 3, .string (ByteArray.mk #[])]) rfl rfl rfl rfl (by kernel_rfl) (one_of rfl) (by simp) rfl hw) ?_)
  refine T.nil ?_
  refine T.seq ?_
  refine T.seq ?_
  refine T.region ?_
  refine T.look (.agg #[.int .i64 0, .int .i64 0, .int .i64 0, .int .i64 1, .int .i64 3, .string (ByteArray.mk #[])]) (by kernel_rfl) (fun w' hh => exec_loadN (cs := [.int .i64 0, .int .i64 0, .int .i64 0, .int .i64 1, .int .i64 3, .string (ByteArray.mk #[])]) rfl rfl (by kernel_rfl) (by kernel_rfl) (fun j u hj => (hh.box_at (i := 0) (cs := [.int .i64 0, .int .i64 0, .int .i64 0, .int .i64 1, .int .i64 3, .string (ByteArray.mk #[])]) (by rfl) 0 j).trans (seg_at (n := 6) rfl hj))) ?_
  refine T.step (W1.new 34 [.int .i64 0, .int .i64 0, .int .i64 0, .int .i64 1, .int .i64 3, .string (ByteArray.mk #[])] (fun b => .slice (some ⟨b, 0, none⟩) 1 1) (by kernel_rfl) (fun _ => by kernel_rfl) (fun b3 => ?_))
  obtain ⟨r1, hb1, hF⟩ := Option.bind_eq_some_iff.1 hF
  refine T.step (W1.call (vT2 (vSc (eList eElem)) (vSc eInt)) r1 25 #[.slice (some ⟨b3, 0, none⟩) 1 1, .int .i64 0, .int .i64 2] (by kernel_rfl) (fun _ => by kernel_rfl) (fun w' hh => stream_Upto_l F [(DElem.mk (DKey.mk 0 0 0) 1 3 (ByteArray.mk #[]))] 0 2 r1 hb1 w' (some ⟨b3, 0, none⟩) 1 (slok_lit (E := eElem) (f := DElem.cells) [(DElem.mk (DKey.mk 0 0 0) 1 3 (ByteArray.mk #[]))] (fun _ _ => rfl) (Nat.le_of_ble_eq_true (by rfl)) (fun j => hh.cellBox (i := 0) (by rfl) j))) ?_)
  intro u V1 hV1 hu
  obtain ⟨u1, u2, rfl, hu1, hu2⟩ := vT2_elim hu
  obtain ⟨A2, c2, rfl, hs2⟩ := vlist_elim hu1
  obtain rfl := sureInt _ _ _ hu2
  refine T.pure (.tuple #[.slice A2 r1.1.length c2, .int .i64 r1.2]) (by kernel_rfl) (fun _ => by kernel_rfl) ?_
  refine T.pure (.slice A2 r1.1.length c2) (by kernel_rfl) (fun _ => by kernel_rfl) ?_
  refine T.pure (.int .i64 r1.2) (by kernel_rfl) (fun _ => by kernel_rfl) ?_
  refine T.pure (.slice A2 r1.1.length c2) (by kernel_rfl) (fun _ => by kernel_rfl) ?_
  refine T.pure (.int .i64 r1.2) (by kernel_rfl) (fun _ => by kernel_rfl) ?_
  refine T.nil ?_
  obtain ⟨z1, hX1, hF⟩ := Option.bind_eq_some_iff.1 hF
  refine T.cut (fun a w' => ∃ (V2 : View), View.le V1 V2 ∧ Fr 88 [(0, .slice A1 p0.length c1), (1, .int .i64 p1), (2, .int .i64 p2), (3, .int .i64 p3), (9, .pointer (some ⟨b1, 0, none⟩)), (34, .bool z1)] a ∧ Hp w V2 [box b1 32 [.int .i64 p4.pfs, .int .i64 p4.obj, .int .i64 p4.off]] w') ?_ ?_
  ·
    refine T.region ?_
    refine T.pure (.int .i64 r1.2) (by kernel_rfl) (fun _ => by kernel_rfl) ?_
    refine T.pure (.bool (r1.2 != 0)) (by kernel_rfl) (fun _ => by kernel_rfl) ?_
    refine T.pure (.bool (r1.2 != 0)) (by kernel_rfl) (fun _ => by kernel_rfl) ?_
    cases hg1 : (r1.2 != 0)
    ·
      skip
      rw [hg1, cond_false] at hX1
      refine T.pure (.slice A2 r1.1.length c2) (by kernel_rfl) (fun _ => by kernel_rfl) ?_
      refine T.pure (.agg #[.int .i64 0, .int .i64 0, .int .i64 0, .int .i64 1, .int .i64 0, .string (ByteArray.mk #[])]) (by kernel_rfl) (fun _ => by kernel_rfl) ?_
      refine T.step (W1.new 34 [.int .i64 0, .int .i64 0, .int .i64 0, .int .i64 1, .int .i64 0, .string (ByteArray.mk #[])] (fun b => .slice (some ⟨b, 0, none⟩) 1 1) (by kernel_rfl) (fun _ => by kernel_rfl) (fun b4 => ?_))
      obtain ⟨r2, hb2, hX1⟩ := Option.bind_eq_some_iff.1 hX1
      refine T.step (W1.call (vSc eBool) r2 26 #[.slice A2 r1.1.length c2, .slice (some ⟨b4, 0, none⟩) 1 1] (by kernel_rfl) (fun _ => by kernel_rfl) (fun w' hh => slices_Equal_Elem_l F r1.1 [(DElem.mk (DKey.mk 0 0 0) 1 0 (ByteArray.mk #[]))] r2 hb2 w' A2 c2 (SlOk.mono (SlOk.mono hs2 (View.le_trans (made_le _ _) (View.le_refl _))) hh.view) (some ⟨b4, 0, none⟩) 1 (slok_lit (E := eElem) (f := DElem.cells) [(DElem.mk (DKey.mk 0 0 0) 1 0 (ByteArray.mk #[]))] (fun _ _ => rfl) (Nat.le_of_ble_eq_true (by rfl)) (fun j => hh.cellBox (i := 0) (by rfl) j))) ?_)
      intro u V3 hV3 hu
      obtain rfl := sureBool _ _ _ hu
      refine T.pure (.bool (!r2)) (by kernel_rfl) (fun _ => by kernel_rfl) ?_
      refine T.pure (.bool (!r2)) (by kernel_rfl) (fun _ => by kernel_rfl) ?_
      refine T.nil ?_
      cases hX1
      exact fun a w' hf hh => Exists.intro V3 (And.intro hV3 (And.intro (((((((Fr.nil hf).pick hf 34 rfl).pick hf 9 rfl).pick hf 3 rfl).pick hf 2 rfl).pick hf 1 rfl).pick hf 0 rfl) (hh.sub (.cons _ (.cons _ (.cons _ (.cons_cons _ List.Sublist.slnil)))))))
    ·
      skip
      rw [hg1, cond_true] at hX1
      refine T.pass (by kernel_rfl) (by kernel_rfl) ?_
      refine T.pass (by kernel_rfl) (by kernel_rfl) ?_
      refine T.pass (by kernel_rfl) (by kernel_rfl) ?_
      refine T.pass (by kernel_rfl) (by kernel_rfl) ?_
      refine T.pass (by kernel_rfl) (by kernel_rfl) ?_
      refine T.pure (.bool true) (by kernel_rfl) (fun _ => by kernel_rfl) ?_
      refine T.nil ?_
      cases hX1
      exact fun a w' hf hh => Exists.intro V1 (And.intro (View.le_refl _) (And.intro (((((((Fr.nil hf).pick hf 34 rfl).pick hf 9 rfl).pick hf 3 rfl).pick hf 2 rfl).pick hf 1 rfl).pick hf 0 rfl) (hh.sub (.cons _ (.cons _ (.cons_cons _ List.Sublist.slnil))))))
  ·
    rintro a w' ⟨V2, hV2, hf, hh⟩
    refine (?_ : T 88 w V2 [box b1 32 [.int .i64 p4.pfs, .int .i64 p4.obj, .int .i64 p4.off]] [(0, .slice A1 p0.length c1), (1, .int .i64 p1), (2, .int .i64 p2), (3, .int .i64 p3), (9, .pointer (some ⟨b1, 0, none⟩)), (34, .bool z1)] _) a w' hf hh
    clear hf hh
    refine T.cond z1 (by kernel_rfl) (by kernel_rfl) (fun hc1 => ?_) (fun hc1 => ?_)
    ·
      rw [hc1, cond_true] at hF
      refine T.seq ?_
      refine T.region ?_
      refine T.pure (.bool false) (by kernel_rfl) (fun _ => by kernel_rfl) ?_
      refine T.nil ?_
      cases hF
      refine T.ret rfl ?_
      exact T.ret1 rfl (ResIs.tmp rfl) fun w' hh => ⟨_, rfl, hh.below, (show _ from rfl)⟩
    ·
      rw [hc1, cond_false] at hF
      refine T.skip_code ?_
      refine T.seq ?_
      refine T.region ?_
      refine T.pure (.slice A1 p0.length c1) (by kernel_rfl) (fun _ => by kernel_rfl) ?_
      refine T.pure (.int .i64 p1) (by kernel_rfl) (fun _ => by kernel_rfl) ?_
      refine T.pure (.int .i64 p2) (by kernel_rfl) (fun _ => by kernel_rfl) ?_
      obtain ⟨r3, hb3, hF⟩ := Option.bind_eq_some_iff.1 hF
      refine T.step (W1.call (vT2 (vSc (eList eElem)) (vSc eInt)) r3 25 #[.slice A1 p0.length c1, .int .i64 p1, .int .i64 p2] (by kernel_rfl) (fun _ => by kernel_rfl) (fun w' hh => stream_Upto_l F p0 p1 p2 r3 hb3 w' A1 c1 (SlOk.mono (SlOk.mono hs1 (View.le_trans hV1 hV2)) hh.view)) ?_)
      intro u V4 hV4 hu
      obtain ⟨u3, u4, rfl, hu3, hu4⟩ := vT2_elim hu
      obtain ⟨A3, c3, rfl, hs3⟩ := vlist_elim hu3
      obtain rfl := sureInt _ _ _ hu4
      refine T.pure (.tuple #[.slice A3 r3.1.length c3, .int .i64 r3.2]) (by kernel_rfl) (fun _ => by kernel_rfl) ?_
      refine T.pure (.slice A3 r3.1.length c3) (by kernel_rfl) (fun _ => by kernel_rfl) ?_
      refine T.pure (.int .i64 r3.2) (by kernel_rfl) (fun _ => by kernel_rfl) ?_
      refine T.pure (.slice A3 r3.1.length c3) (by kernel_rfl) (fun _ => by kernel_rfl) ?_
      refine T.pure (.int .i64 r3.2) (by kernel_rfl) (fun _ => by kernel_rfl) ?_
      refine T.nil ?_
      refine T.seq ?_
      refine T.seq ?_
      refine T.region ?_
      refine T.pure (.int .i64 r3.2) (by kernel_rfl) (fun _ => by kernel_rfl) ?_
      refine T.pure (.bool (r3.2 != 0)) (by kernel_rfl) (fun _ => by kernel_rfl) ?_
      refine T.nil ?_
      refine T.cond (r3.2 != 0) (by kernel_rfl) (by kernel_rfl) (fun hc2 => ?_) (fun hc2 => ?_)
      ·
        rw [hc2, cond_true] at hF
        refine T.seq ?_
        refine T.region ?_
        refine T.pure (.slice A3 r3.1.length c3) (by kernel_rfl) (fun _ => by kernel_rfl) ?_
        refine T.pure (.int .i64 (r3.1.length : Int)) (by kernel_rfl) (fun _ => by kernel_rfl) ?_
        refine T.pure (.bool ((r3.1.length : Int) == 0)) (by kernel_rfl) (fun _ => by kernel_rfl) ?_
        refine T.pure (.bool ((r3.1.length : Int) == 0)) (by kernel_rfl) (fun _ => by kernel_rfl) ?_
        refine T.nil ?_
        cases hF
        refine T.ret rfl ?_
        exact T.ret1 rfl (ResIs.tmp rfl) fun w' hh => ⟨_, rfl, hh.below, (show _ from rfl)⟩
      ·
        rw [hc2, cond_false] at hF
        refine T.skip_code ?_
        refine T.seq ?_
        refine T.region ?_
        refine T.pure (.int .i64 p1) (by kernel_rfl) (fun _ => by kernel_rfl) ?_
        refine T.pure (.pointer (some ⟨b1, 0, none⟩)) (by kernel_rfl) (fun _ => by kernel_rfl) ?_
        refine T.step (W1.store 0 [.int .i64 p1, .int .i64 p4.obj, .int .i64 p4.off] [box b1 32 [.int .i64 p1, .int .i64 p4.obj, .int .i64 p4.off]] (by rfl) rfl (by kernel_rfl) (fun w' hw => exec_store (vs := [.int .i64 p1]) rfl rfl rfl rfl (by kernel_rfl) (one_of rfl) (by simp) rfl hw) ?_)
        refine T.nil ?_
        refine T.seq ?_
        refine T.region ?_
        refine T.pure (.int .i64 p3) (by kernel_rfl) (fun _ => by kernel_rfl) ?_
        refine T.pure (.int .i64 p2) (by kernel_rfl) (fun _ => by kernel_rfl) ?_
        refine T.pure (.int .i64 (if p2 < p3 then p2 else p3)) (by kernel_rfl) (fun _ => by kernel_rfl) ?_
        refine T.pure (.int .i64 (if p2 < p3 then p2 else p3)) (by kernel_rfl) (fun _ => by kernel_rfl) ?_
        refine T.nil ?_
        refine T.seq ?_
        refine T.region ?_
        refine T.pure (.slice A1 p0.length c1) (by kernel_rfl) (fun _ => by kernel_rfl) ?_
        refine T.look (.agg #[.int .i64 p1, .int .i64 p4.obj, .int .i64 p4.off]) (by kernel_rfl) (fun w' hh => exec_loadN (cs := [.int .i64 p1, .int .i64 p4.obj, .int .i64 p4.off]) rfl rfl (by kernel_rfl) (by kernel_rfl) (fun j u hj => (hh.box_at (i := 0) (cs := [.int .i64 p1, .int .i64 p4.obj, .int .i64 p4.off]) (by rfl) 0 j).trans (seg_at (n := 3) rfl hj))) ?_
        refine T.pure (.int .i64 (if p2 < p3 then p2 else p3)) (by kernel_rfl) (fun _ => by kernel_rfl) ?_
        obtain ⟨r4, hb4, hF⟩ := Option.bind_eq_some_iff.1 hF
        refine T.step (W1.call (vT2 (vAg eElem) (vSc eInt)) r4 27 #[.slice A1 p0.length c1, .agg #[.int .i64 p1, .int .i64 p4.obj, .int .i64 p4.off], .int .i64 (if p2 < p3 then p2 else p3)] (by kernel_rfl) (fun _ => by kernel_rfl) (fun w' hh => run_At_l F p0 (DKey.mk p1 p4.obj p4.off) (if p2 < p3 then p2 else p3) r4 hb4 w' A1 c1 (SlOk.mono (SlOk.mono hs1 (View.le_trans (View.le_trans hV1 hV2) hV4)) hh.view)) ?_)
        intro u V5 hV5 hu
        obtain rfl := (Sure.t2 sureElem sureInt) _ _ _ hu
        refine T.pure (.tuple #[.agg #[.int .i64 r4.1.key.pfs, .int .i64 r4.1.key.obj, .int .i64 r4.1.key.off, .int .i64 r4.1.made, .int .i64 r4.1.gone, .string r4.1.val], .int .i64 r4.2]) (by kernel_rfl) (fun _ => by kernel_rfl) ?_
        refine T.pure (.agg #[.int .i64 r4.1.key.pfs, .int .i64 r4.1.key.obj, .int .i64 r4.1.key.off, .int .i64 r4.1.made, .int .i64 r4.1.gone, .string r4.1.val]) (by kernel_rfl) (fun _ => by kernel_rfl) ?_
        refine T.pure (.int .i64 r4.2) (by kernel_rfl) (fun _ => by kernel_rfl) ?_
        refine T.step (W1.new 34 [.int .i64 0, .int .i64 0, .int .i64 0, .int .i64 0, .int .i64 0, .string (ByteArray.mk #[])] (fun b => .pointer (some ⟨b, 0, none⟩)) (by kernel_rfl) (fun _ => by kernel_rfl) (fun b5 => ?_))
        refine T.step (W1.store 0 [.int .i64 r4.1.key.pfs, .int .i64 r4.1.key.obj, .int .i64 r4.1.key.off, .int .i64 r4.1.made, .int .i64 r4.1.gone, .string r4.1.val] [box b5 34 [.int .i64 r4.1.key.pfs, .int .i64 r4.1.key.obj, .int .i64 r4.1.key.off, .int .i64 r4.1.made, .int .i64 r4.1.gone, .string r4.1.val], box b1 32 [.int .i64 p1, .int .i64 p4.obj, .int .i64 p4.off]] (by rfl) rfl (by kernel_rfl) (fun w' hw => exec_store (vs := [.int .i64 r4.1.key.pfs, .int .i64 r4.1.key.obj, .int .i64 r4.1.key.off, .int .i64 r4.1.made, .int .i64 r4.1.gone, .string r4.1.val]) rfl rfl rfl rfl (by kernel_rfl) (one_of rfl) (by simp) rfl hw) ?_)
        refine T.pure (.int .i64 r4.2) (by kernel_rfl) (fun _ => by kernel_rfl) ?_
        refine T.nil ?_
        refine T.seq ?_
        refine T.region ?_
        refine T.pure (.slice A3 r3.1.length c3) (by kernel_rfl) (fun _ => by kernel_rfl) ?_
        refine T.look (.agg #[.int .i64 p1, .int .i64 p4.obj, .int .i64 p4.off]) (by kernel_rfl) (fun w' hh => exec_loadN (cs := [.int .i64 p1, .int .i64 p4.obj, .int .i64 p4.off]) rfl rfl (by kernel_rfl) (by kernel_rfl) (fun j u hj => (hh.box_at (i := 1) (cs := [.int .i64 p1, .int .i64 p4.obj, .int .i64 p4.off]) (by rfl) 0 j).trans (seg_at (n := 3) rfl hj))) ?_
        refine T.pure (.int .i64 (if p2 < p3 then p2 else p3)) (by kernel_rfl) (fun _ => by kernel_rfl) ?_
        obtain ⟨r5, hb5, hF⟩ := Option.bind_eq_some_iff.1 hF
        refine T.step (W1.call (vT2 (vAg eElem) (vSc eInt)) r5 27 #[.slice A3 r3.1.length c3, .agg #[.int .i64 p1, .int .i64 p4.obj, .int .i64 p4.off], .int .i64 (if p2 < p3 then p2 else p3)] (by kernel_rfl) (fun _ => by kernel_rfl) (fun w' hh => run_At_l F r3.1 (DKey.mk p1 p4.obj p4.off) (if p2 < p3 then p2 else p3) r5 hb5 w' A3 c3 (SlOk.mono (SlOk.mono hs3 (View.le_trans (made_le _ _) hV5)) hh.view)) ?_)
        intro u V6 hV6 hu
        obtain rfl := (Sure.t2 sureElem sureInt) _ _ _ hu
        refine T.pure (.tuple #[.agg #[.int .i64 r5.1.key.pfs, .int .i64 r5.1.key.obj, .int .i64 r5.1.key.off, .int .i64 r5.1.made, .int .i64 r5.1.gone, .string r5.1.val], .int .i64 r5.2]) (by kernel_rfl) (fun _ => by kernel_rfl) ?_
        refine T.pure (.agg #[.int .i64 r5.1.key.pfs, .int .i64 r5.1.key.obj, .int .i64 r5.1.key.off, .int .i64 r5.1.made, .int .i64 r5.1.gone, .string r5.1.val]) (by kernel_rfl) (fun _ => by kernel_rfl) ?_
        refine T.pure (.int .i64 r5.2) (by kernel_rfl) (fun _ => by kernel_rfl) ?_
        refine T.step (W1.new 34 [.int .i64 0, .int .i64 0, .int .i64 0, .int .i64 0, .int .i64 0, .string (ByteArray.mk #[])] (fun b => .pointer (some ⟨b, 0, none⟩)) (by kernel_rfl) (fun _ => by kernel_rfl) (fun b6 => ?_))
        refine T.step (W1.store 0 [.int .i64 r5.1.key.pfs, .int .i64 r5.1.key.obj, .int .i64 r5.1.key.off, .int .i64 r5.1.made, .int .i64 r5.1.gone, .string r5.1.val] [box b6 34 [.int .i64 r5.1.key.pfs, .int .i64 r5.1.key.obj, .int .i64 r5.1.key.off, .int .i64 r5.1.made, .int .i64 r5.1.gone, .string r5.1.val], box b5 34 [.int .i64 r4.1.key.pfs, .int .i64 r4.1.key.obj, .int .i64 r4.1.key.off, .int .i64 r4.1.made, .int .i64 r4.1.gone, .string r4.1.val], box b1 32 [.int .i64 p1, .int .i64 p4.obj, .int .i64 p4.off]] (by rfl) rfl (by kernel_rfl) (fun w' hw => exec_store (vs := [.int .i64 r5.1.key.pfs, .int .i64 r5.1.key.obj, .int .i64 r5.1.key.off, .int .i64 r5.1.made, .int .i64 r5.1.gone, .string r5.1.val]) rfl rfl rfl rfl (by kernel_rfl) (one_of rfl) (by simp) rfl hw) ?_)
        refine T.pure (.int .i64 r5.2) (by kernel_rfl) (fun _ => by kernel_rfl) ?_
        refine T.nil ?_
        obtain ⟨z2, hX2, hF⟩ := Option.bind_eq_some_iff.1 hF
        refine T.cut (fun a w' => ∃ (V7 : View), View.le V6 V7 ∧ Fr 88 [(10, .bool z2)] a ∧ Hp w V7 [] w') ?_ ?_
        ·
          refine T.region ?_
          refine T.pure (.int .i64 r4.2) (by kernel_rfl) (fun _ => by kernel_rfl) ?_
          refine T.pure (.int .i64 r5.2) (by kernel_rfl) (fun _ => by kernel_rfl) ?_
          refine T.pure (.bool (r4.2 == r5.2)) (by kernel_rfl) (fun _ => by kernel_rfl) ?_
          refine T.pure (.bool (r4.2 == r5.2)) (by kernel_rfl) (fun _ => by kernel_rfl) ?_
          cases hg2 : (r4.2 == r5.2)
          ·
            skip
            rw [hg2, cond_false] at hX2
            refine T.pass (by kernel_rfl) (by kernel_rfl) ?_
            refine T.pass (by kernel_rfl) (by kernel_rfl) ?_
            refine T.pass (by kernel_rfl) (by kernel_rfl) ?_
            refine T.pass (by kernel_rfl) (by kernel_rfl) ?_
            refine T.pass (by kernel_rfl) (by kernel_rfl) ?_
            refine T.pure (.bool false) (by kernel_rfl) (fun _ => by kernel_rfl) ?_
            refine T.pure (.bool false) (by kernel_rfl) (fun _ => by kernel_rfl) ?_
            refine T.pass (by kernel_rfl) (by kernel_rfl) ?_
            refine T.pass (by kernel_rfl) (by kernel_rfl) ?_
            refine T.pass (by kernel_rfl) (by kernel_rfl) ?_
            refine T.pass (by kernel_rfl) (by kernel_rfl) ?_
            refine T.pass (by kernel_rfl) (by kernel_rfl) ?_
            refine T.pure (.bool false) (by kernel_rfl) (fun _ => by kernel_rfl) ?_
            refine T.pure (.bool false) (by kernel_rfl) (fun _ => by kernel_rfl) ?_
            refine T.pass (by kernel_rfl) (by kernel_rfl) ?_
            refine T.pass (by kernel_rfl) (by kernel_rfl) ?_
            refine T.pass (by kernel_rfl) (by kernel_rfl) ?_
            refine T.pure (.bool false) (by kernel_rfl) (fun _ => by kernel_rfl) ?_
            refine T.pure (.bool false) (by kernel_rfl) (fun _ => by kernel_rfl) ?_
            refine T.nil ?_
            cases hX2
            exact fun a w' hf hh => Exists.intro V6 (And.intro (View.le_refl _) (And.intro ((Fr.nil hf).pick hf 10 rfl) (hh.sub (.cons _ (.cons _ (.cons _ List.Sublist.slnil))))))
          ·
            skip
            rw [hg2, cond_true] at hX2
            refine T.pure (.pointer (some ⟨b5, 5, none⟩)) (by kernel_rfl) (fun _ => by kernel_rfl) ?_
            refine T.look (.string r4.1.val) (by kernel_rfl) (fun w' hh => exec_load1 rfl rfl (by kernel_rfl) (hh.cellBox (i := 1) (by rfl) 5)) ?_
            refine T.pure (.pointer (some ⟨b6, 5, none⟩)) (by kernel_rfl) (fun _ => by kernel_rfl) ?_
            refine T.look (.string r5.1.val) (by kernel_rfl) (fun w' hh => exec_load1 rfl rfl (by kernel_rfl) (hh.cellBox (i := 0) (by rfl) 5)) ?_
            refine T.pure (.bool (seq r4.1.val r5.1.val)) (by kernel_rfl) (fun _ => by kernel_rfl) ?_
            refine T.pure (.bool (seq r4.1.val r5.1.val)) (by kernel_rfl) (fun _ => by kernel_rfl) ?_
            refine T.pure (.bool (seq r4.1.val r5.1.val)) (by kernel_rfl) (fun _ => by kernel_rfl) ?_
            cases hg3 : (seq r4.1.val r5.1.val)
            ·
              skip
              rw [hg3, cond_false] at hX2
              refine T.pass (by kernel_rfl) (by kernel_rfl) ?_
              refine T.pass (by kernel_rfl) (by kernel_rfl) ?_
              refine T.pass (by kernel_rfl) (by kernel_rfl) ?_
              refine T.pass (by kernel_rfl) (by kernel_rfl) ?_
              refine T.pass (by kernel_rfl) (by kernel_rfl) ?_
              refine T.pure (.bool false) (by kernel_rfl) (fun _ => by kernel_rfl) ?_
              refine T.pure (.bool false) (by kernel_rfl) (fun _ => by kernel_rfl) ?_
              refine T.pass (by kernel_rfl) (by kernel_rfl) ?_
              refine T.pass (by kernel_rfl) (by kernel_rfl) ?_
              refine T.pass (by kernel_rfl) (by kernel_rfl) ?_
              refine T.pure (.bool false) (by kernel_rfl) (fun _ => by kernel_rfl) ?_
              refine T.pure (.bool false) (by kernel_rfl) (fun _ => by kernel_rfl) ?_
              refine T.nil ?_
              cases hX2
              exact fun a w' hf hh => Exists.intro V6 (And.intro (View.le_refl _) (And.intro ((Fr.nil hf).pick hf 10 rfl) (hh.sub (.cons _ (.cons _ (.cons _ List.Sublist.slnil))))))
            ·
              skip
              rw [hg3, cond_true] at hX2
              refine T.pure (.pointer (some ⟨b5, 3, none⟩)) (by kernel_rfl) (fun _ => by kernel_rfl) ?_
              refine T.look (.int .i64 r4.1.made) (by kernel_rfl) (fun w' hh => exec_load1 rfl rfl (by kernel_rfl) (hh.cellBox (i := 1) (by rfl) 3)) ?_
              refine T.pure (.pointer (some ⟨b6, 3, none⟩)) (by kernel_rfl) (fun _ => by kernel_rfl) ?_
              refine T.look (.int .i64 r5.1.made) (by kernel_rfl) (fun w' hh => exec_load1 rfl rfl (by kernel_rfl) (hh.cellBox (i := 0) (by rfl) 3)) ?_
              refine T.pure (.bool (r4.1.made == r5.1.made)) (by kernel_rfl) (fun _ => by kernel_rfl) ?_
              refine T.pure (.bool (r4.1.made == r5.1.made)) (by kernel_rfl) (fun _ => by kernel_rfl) ?_
              refine T.pure (.bool (r4.1.made == r5.1.made)) (by kernel_rfl) (fun _ => by kernel_rfl) ?_
              cases hg4 : (r4.1.made == r5.1.made)
              ·
                skip
                rw [hg4, cond_false] at hX2
                refine T.pass (by kernel_rfl) (by kernel_rfl) ?_
                refine T.pass (by kernel_rfl) (by kernel_rfl) ?_
                refine T.pass (by kernel_rfl) (by kernel_rfl) ?_
                refine T.pure (.bool false) (by kernel_rfl) (fun _ => by kernel_rfl) ?_
                refine T.pure (.bool false) (by kernel_rfl) (fun _ => by kernel_rfl) ?_
                refine T.nil ?_
                cases hX2
                exact fun a w' hf hh => Exists.intro V6 (And.intro (View.le_refl _) (And.intro ((Fr.nil hf).pick hf 10 rfl) (hh.sub (.cons _ (.cons _ (.cons _ List.Sublist.slnil))))))
              ·
                skip
                rw [hg4, cond_true] at hX2
                refine T.pure (.slice A3 r3.1.length c3) (by kernel_rfl) (fun _ => by kernel_rfl) ?_
                obtain ⟨r6, hb6, hX2⟩ := Option.bind_eq_some_iff.1 hX2
                refine T.step (W1.call (vSc eInt) r6 28 #[.slice A3 r3.1.length c3] (by kernel_rfl) (fun _ => by kernel_rfl) (fun w' hh => run_Check_l F r3.1 r6 hb6 w' A3 c3 (SlOk.mono (SlOk.mono hs3 (View.le_trans (made_le _ _) (View.le_trans hV5 hV6))) hh.view)) ?_)
                intro u V8 hV8 hu
                obtain rfl := sureInt _ _ _ hu
                refine T.pure (.bool (r6 == 0)) (by kernel_rfl) (fun _ => by kernel_rfl) ?_
                refine T.pure (.bool (r6 == 0)) (by kernel_rfl) (fun _ => by kernel_rfl) ?_
                refine T.pure (.bool (r6 == 0)) (by kernel_rfl) (fun _ => by kernel_rfl) ?_
                refine T.nil ?_
                cases hX2
                exact fun a w' hf hh => Exists.intro V8 (And.intro hV8 (And.intro ((Fr.nil hf).pick hf 10 rfl) (hh.sub (.cons _ (.cons _ (.cons _ List.Sublist.slnil))))))
        ·
          rintro a w' ⟨V7, hV7, hf, hh⟩
          refine (?_ : T 88 w V7 [] [(10, .bool z2)] _) a w' hf hh
          clear hf hh
          cases hF
          refine T.ret rfl ?_
          exact T.ret1 rfl (ResIs.tmp rfl) fun w' hh => ⟨_, rfl, hh.below, (show _ from rfl)⟩

end Go.Proofs.Ytldlakjemifdmaa
