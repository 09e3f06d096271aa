/- The Go functions of group WNodeWays compute the pure functions of that group: written by walkgen.py. Condition of each: the pure function yields a result. -/
import Derived.Test.YtldlakjemifdmaaNodeL
import Derived.Test.YtldlakjemifdmaaWNodeWaysF
import Derived.Test.YtldlakjemifdmaaEqL
namespace Go.Proofs.Ytldlakjemifdmaa
set_option linter.unusedVariables false

set_option maxRecDepth 100000 in
set_option maxHeartbeats 4000000 in
theorem annalkeep_NodeWays_l (F : Nat) (p0 : DNode) (p1 : DSpot) (p2 : DSpot) (r : Bool) (hF : annalkeep_NodeWays F p0 p1 p2 = some r) (w : World) (A1 : Option Addr) (c1 : Nat) (hs1 : SlOk (vw w) eElem A1 c1 p0.elems) (A2 : Option Addr) (c2 : Nat) (hs2 : SlOk (vw w) eInt A2 c2 p0.kids) (A3 : Option Addr) (c3 : Nat) (hs3 : SlOk (vw w) eSpot A3 c3 p0.seps) (A4 : Option Addr) (c4 : Nat) (hs4 : SlOk (vw w) eInt A4 c4 p0.tids) :
    Calls Try.prog 5 #[.agg #[.int .i64 p0.kind, .slice A1 p0.elems.length c1, .slice A2 p0.kids.length c2, .slice A3 p0.seps.length c3, .slice A4 p0.tids.length c4], .agg #[.int .i64 p1.key.pfs, .int .i64 p1.key.obj, .int .i64 p1.key.off, .int .i64 p1.made], .agg #[.int .i64 p2.key.pfs, .int .i64 p2.key.obj, .int .i64 p2.key.off, .int .i64 p2.made]] w (Post (vSc eBool) r w) := by
  unfold annalkeep_NodeWays at hF
  refine T.start (l := [.agg #[.int .i64 p0.kind, .slice A1 p0.elems.length c1, .slice A2 p0.kids.length c2, .slice A3 p0.seps.length c3, .slice A4 p0.tids.length c4], .agg #[.int .i64 p1.key.pfs, .int .i64 p1.key.obj, .int .i64 p1.key.off, .int .i64 p1.made], .agg #[.int .i64 p2.key.pfs, .int .i64 p2.key.obj, .int .i64 p2.key.off, .int .i64 p2.made]]) Try.func5 rfl rfl rfl ?_
  refine T.seq ?_
  refine T.region ?_
  refine T.step (W1.new 26 [.int .i64 p0.kind, .slice A1 p0.elems.length c1, .slice A2 p0.kids.length c2, .slice A3 p0.seps.length c3, .slice A4 p0.tids.length c4] (fun b => .pointer (some ⟨b, 0, none⟩)) (by kernel_rfl) (fun _ => by kernel_rfl) (fun b1 => ?_))
  refine T.step (W1.new 46 [.int .i64 p1.key.pfs, .int .i64 p1.key.obj, .int .i64 p1.key.off, .int .i64 p1.made] (fun b => .pointer (some ⟨b, 0, none⟩)) (by kernel_rfl) (fun _ => by kernel_rfl) (fun b2 => ?_))
  refine T.step (W1.new 46 [.int .i64 p2.key.pfs, .int .i64 p2.key.obj, .int .i64 p2.key.off, .int .i64 p2.made] (fun b => .pointer (some ⟨b, 0, none⟩)) (by kernel_rfl) (fun _ => by kernel_rfl) (fun b3 => ?_))
  refine T.pure (.bool false) (by kernel_rfl) (fun _ => by kernel_rfl) ?_
  refine T.nil ?_
  refine T.seq ?_
  refine T.region ?_
  refine T.pure (.agg #[.int .i64 0, .int .i64 0, .int .i64 0, .int .i64 5]) (by kernel_rfl) (fun _ => by kernel_rfl) ?_
  refine T.step (W1.new 46 [.int .i64 0, .int .i64 0, .int .i64 0, .int .i64 0] (fun b => .pointer (some ⟨b, 0, none⟩)) (by kernel_rfl) (fun _ => by kernel_rfl) (fun b4 => ?_))
  refine T.step (W1.store 0 [.int .i64 0, .int .i64 0, .int .i64 0, .int .i64 5] [box b4 46 [.int .i64 0, .int .i64 0, .int .i64 0, .int .i64 5], box b3 46 [.int .i64 p2.key.pfs, .int .i64 p2.key.obj, .int .i64 p2.key.off, .int .i64 p2.made], box b2 46 [.int .i64 p1.key.pfs, .int .i64 p1.key.obj, .int .i64 p1.key.off, .int .i64 p1.made], box b1 26 [.int .i64 p0.kind, .slice A1 p0.elems.length c1, .slice A2 p0.kids.length c2, .slice A3 p0.seps.length c3, .slice A4 p0.tids.length c4]] (by rfl) rfl (by kernel_rfl) (fun w' hw => exec_store (vs := [.int .i64 0, .int .i64 0, .int .i64 0, .int .i64 5]) rfl rfl rfl rfl (by kernel_rfl) (one_of rfl) (by simp) rfl hw) ?_)
  refine T.nil ?_
  refine T.seq ?_
  refine T.region ?_
  refine T.step (W1.new 3 [.int .i64 1, .int .i64 2] (fun b => .slice (some ⟨b, 0, none⟩) 2 2) (by kernel_rfl) (fun _ => by kernel_rfl) (fun b5 => ?_))
  refine T.look (.agg #[.int .i64 0, .int .i64 0, .int .i64 0, .int .i64 5]) (by kernel_rfl) (fun w' hh => exec_loadN (cs := [.int .i64 0, .int .i64 0, .int .i64 0, .int .i64 5]) rfl rfl (by kernel_rfl) (by kernel_rfl) (fun j u hj => (hh.box_at (i := 1) (cs := [.int .i64 0, .int .i64 0, .int .i64 0, .int .i64 5]) (by rfl) 0 j).trans (seg_at (n := 4) rfl hj))) ?_
  refine T.step (W1.new 46 [.int .i64 0, .int .i64 0, .int .i64 0, .int .i64 5] (fun b => .slice (some ⟨b, 0, none⟩) 1 1) (by kernel_rfl) (fun _ => by kernel_rfl) (fun b6 => ?_))
  refine T.step (W1.new 3 [.int .i64 3, .int .i64 4] (fun b => .slice (some ⟨b, 0, none⟩) 2 2) (by kernel_rfl) (fun _ => by kernel_rfl) (fun b7 => ?_))
  refine T.pure (.agg #[.int .i64 2, .slice none 0 0, .slice (some ⟨b5, 0, none⟩) 2 2, .slice (some ⟨b6, 0, none⟩) 1 1, .slice (some ⟨b7, 0, none⟩) 2 2]) (by kernel_rfl) (fun _ => by kernel_rfl) ?_
  refine T.step (W1.new 26 [.int .i64 0, .slice none 0 0, .slice none 0 0, .slice none 0 0, .slice none 0 0] (fun b => .pointer (some ⟨b, 0, none⟩)) (by kernel_rfl) (fun _ => by kernel_rfl) (fun b8 => ?_))
  refine T.step (W1.store 0 [.int .i64 2, .slice none 0 0, .slice (some ⟨b5, 0, none⟩) 2 2, .slice (some ⟨b6, 0, none⟩) 1 1, .slice (some ⟨b7, 0, none⟩) 2 2] [box b8 26 [.int .i64 2, .slice none 0 0, .slice (some ⟨b5, 0, none⟩) 2 2, .slice (some ⟨b6, 0, none⟩) 1 1, .slice (some ⟨b7, 0, none⟩) 2 2], box b7 3 [.int .i64 3, .int .i64 4], box b6 46 [.int .i64 0, .int .i64 0, .int .i64 0, .int .i64 5], box b5 3 [.int .i64 1, .int .i64 2], box b4 46 [.int .i64 0, .int .i64 0, .int .i64 0, .int .i64 5], box b3 46 [.int .i64 p2.key.pfs, .int .i64 p2.key.obj, .int .i64 p2.key.off, .int .i64 p2.made], box b2 46 [.int .i64 p1.key.pfs, .int .i64 p1.key.obj, .int .i64 p1.key.off, .int .i64 p1.made], box b1 26 [.int .i64 p0.kind, .slice A1 p0.elems.length c1, .slice A2 p0.kids.length c2, .slice A3 p0.seps.length c3, .slice A4 p0.tids.length c4]] (by rfl) rfl (by kernel_rfl) (fun w' hw => exec_store (vs := [.int .i64 2, .slice none 0 0, .slice (some ⟨b5, 0, none⟩) 2 2, .slice (some ⟨b6, 0, none⟩) 1 1, .slice (some ⟨b7, 0, none⟩) 2 2]) rfl rfl rfl rfl (by kernel_rfl) (one_of rfl) (by simp) rfl hw) ?_)
  refine T.nil ?_
  refine T.seq ?_
  refine T.seq ?_
  refine T.region ?_
  refine T.look (.agg #[.int .i64 2, .slice none 0 0, .slice (some ⟨b5, 0, none⟩) 2 2, .slice (some ⟨b6, 0, none⟩) 1 1, .slice (some ⟨b7, 0, none⟩) 2 2]) (by kernel_rfl) (fun w' hh => exec_loadN (cs := [.int .i64 2, .slice none 0 0, .slice (some ⟨b5, 0, none⟩) 2 2, .slice (some ⟨b6, 0, none⟩) 1 1, .slice (some ⟨b7, 0, none⟩) 2 2]) rfl rfl (by kernel_rfl) (by kernel_rfl) (fun j u hj => (hh.box_at (i := 0) (cs := [.int .i64 2, .slice none 0 0, .slice (some ⟨b5, 0, none⟩) 2 2, .slice (some ⟨b6, 0, none⟩) 1 1, .slice (some ⟨b7, 0, none⟩) 2 2]) (by rfl) 0 j).trans (seg_at (n := 5) rfl hj))) ?_
  refine T.look (.agg #[.int .i64 0, .int .i64 0, .int .i64 0, .int .i64 5]) (by kernel_rfl) (fun w' hh => exec_loadN (cs := [.int .i64 0, .int .i64 0, .int .i64 0, .int .i64 5]) rfl rfl (by kernel_rfl) (by kernel_rfl) (fun j u hj => (hh.box_at (i := 4) (cs := [.int .i64 0, .int .i64 0, .int .i64 0, .int .i64 5]) (by rfl) 0 j).trans (seg_at (n := 4) rfl hj))) ?_
  obtain ⟨r1, hb1, hF⟩ := Option.bind_eq_some_iff.1 hF
  refine T.step (W1.call (vT2 (vSc eInt) (vSc eInt)) r1 29 #[.agg #[.int .i64 2, .slice none 0 0, .slice (some ⟨b5, 0, none⟩) 2 2, .slice (some ⟨b6, 0, none⟩) 1 1, .slice (some ⟨b7, 0, none⟩) 2 2], .agg #[.int .i64 0, .int .i64 0, .int .i64 0, .int .i64 5]] (by kernel_rfl) (fun _ => by kernel_rfl) (fun w' hh => node_Kid_l F (DNode.mk 2 [] [1, 2] [(DSpot.mk (DKey.mk 0 0 0) 5)] [3, 4]) (DSpot.mk (DKey.mk 0 0 0) 5) r1 hb1 w' none 0 (SlOk.nil _ _) (some ⟨b5, 0, none⟩) 2 (slok_lit (E := eInt) (f := (fun x => [.int .i64 x])) [1, 2] (fun _ _ => rfl) (Nat.le_of_ble_eq_true (by rfl)) (fun j => hh.cellBox (i := 3) (by rfl) j)) (some ⟨b6, 0, none⟩) 1 (slok_lit (E := eSpot) (f := DSpot.cells) [(DSpot.mk (DKey.mk 0 0 0) 5)] (fun _ _ => rfl) (Nat.le_of_ble_eq_true (by rfl)) (fun j => hh.cellBox (i := 2) (by rfl) j)) (some ⟨b7, 0, none⟩) 2 (slok_lit (E := eInt) (f := (fun x => [.int .i64 x])) [3, 4] (fun _ _ => rfl) (Nat.le_of_ble_eq_true (by rfl)) (fun j => hh.cellBox (i := 1) (by rfl) j))) ?_)
  intro u V1 hV1 hu
  obtain rfl := (Sure.t2 sureInt sureInt) _ _ _ hu
  refine T.pure (.tuple #[.int .i64 r1.1, .int .i64 r1.2]) (by kernel_rfl) (fun _ => by kernel_rfl) ?_
  refine T.pure (.int .i64 r1.1) (by kernel_rfl) (fun _ => by kernel_rfl) ?_
  refine T.pure (.int .i64 r1.2) (by kernel_rfl) (fun _ => by kernel_rfl) ?_
  refine T.pure (.int .i64 r1.1) (by kernel_rfl) (fun _ => by kernel_rfl) ?_
  refine T.pure (.int .i64 r1.2) (by kernel_rfl) (fun _ => by kernel_rfl) ?_
  refine T.nil ?_
  refine T.cut (fun a w' => Fr 148 [(3, .pointer (some ⟨b1, 0, none⟩)), (4, .pointer (some ⟨b2, 0, none⟩)), (5, .pointer (some ⟨b3, 0, none⟩)), (8, .pointer (some ⟨b8, 0, none⟩)), (38, .bool ((r1.1 != 1) || (r1.2 != 0)))] a ∧ Hp w V1 [box b8 26 [.int .i64 2, .slice none 0 0, .slice (some ⟨b5, 0, none⟩) 2 2, .slice (some ⟨b6, 0, none⟩) 1 1, .slice (some ⟨b7, 0, none⟩) 2 2], box b7 3 [.int .i64 3, .int .i64 4], box b6 46 [.int .i64 0, .int .i64 0, .int .i64 0, .int .i64 5], box b5 3 [.int .i64 1, .int .i64 2], box b3 46 [.int .i64 p2.key.pfs, .int .i64 p2.key.obj, .int .i64 p2.key.off, .int .i64 p2.made], box b2 46 [.int .i64 p1.key.pfs, .int .i64 p1.key.obj, .int .i64 p1.key.off, .int .i64 p1.made], box b1 26 [.int .i64 p0.kind, .slice A1 p0.elems.length c1, .slice A2 p0.kids.length c2, .slice A3 p0.seps.length c3, .slice A4 p0.tids.length c4]] w') ?_ ?_
  ·
    refine T.region ?_
    refine T.pure (.int .i64 r1.1) (by kernel_rfl) (fun _ => by kernel_rfl) ?_
    refine T.pure (.bool (r1.1 != 1)) (by kernel_rfl) (fun _ => by kernel_rfl) ?_
    refine T.pure (.bool (r1.1 != 1)) (by kernel_rfl) (fun _ => by kernel_rfl) ?_
    cases hg1 : (r1.1 != 1)
    ·
      skip
      refine T.pure (.int .i64 r1.2) (by kernel_rfl) (fun _ => by kernel_rfl) ?_
      refine T.pure (.bool (r1.2 != 0)) (by kernel_rfl) (fun _ => by kernel_rfl) ?_
      refine T.pure (.bool (r1.2 != 0)) (by kernel_rfl) (fun _ => by kernel_rfl) ?_
      refine T.nil ?_
      exact fun a w' hf hh => And.intro ((((((Fr.nil hf).pick hf 38 rfl).pick hf 8 rfl).pick hf 5 rfl).pick hf 4 rfl).pick hf 3 rfl) (hh.sub (.cons_cons _ (.cons_cons _ (.cons_cons _ (.cons_cons _ (.cons _ (.cons_cons _ (.cons_cons _ (.cons_cons _ List.Sublist.slnil)))))))))
    ·
      skip
      refine T.pass (by kernel_rfl) (by kernel_rfl) ?_
      refine T.pass (by kernel_rfl) (by kernel_rfl) ?_
      refine T.pure (.bool true) (by kernel_rfl) (fun _ => by kernel_rfl) ?_
      refine T.nil ?_
      exact fun a w' hf hh => And.intro ((((((Fr.nil hf).pick hf 38 rfl).pick hf 8 rfl).pick hf 5 rfl).pick hf 4 rfl).pick hf 3 rfl) (hh.sub (.cons_cons _ (.cons_cons _ (.cons_cons _ (.cons_cons _ (.cons _ (.cons_cons _ (.cons_cons _ (.cons_cons _ List.Sublist.slnil)))))))))
  ·
    rintro a w' ⟨hf, hh⟩
    refine (?_ : T 148 w V1 [box b8 26 [.int .i64 2, .slice none 0 0, .slice (some ⟨b5, 0, none⟩) 2 2, .slice (some ⟨b6, 0, none⟩) 1 1, .slice (some ⟨b7, 0, none⟩) 2 2], box b7 3 [.int .i64 3, .int .i64 4], box b6 46 [.int .i64 0, .int .i64 0, .int .i64 0, .int .i64 5], box b5 3 [.int .i64 1, .int .i64 2], box b3 46 [.int .i64 p2.key.pfs, .int .i64 p2.key.obj, .int .i64 p2.key.off, .int .i64 p2.made], box b2 46 [.int .i64 p1.key.pfs, .int .i64 p1.key.obj, .int .i64 p1.key.off, .int .i64 p1.made], box b1 26 [.int .i64 p0.kind, .slice A1 p0.elems.length c1, .slice A2 p0.kids.length c2, .slice A3 p0.seps.length c3, .slice A4 p0.tids.length c4]] [(3, .pointer (some ⟨b1, 0, none⟩)), (4, .pointer (some ⟨b2, 0, none⟩)), (5, .pointer (some ⟨b3, 0, none⟩)), (8, .pointer (some ⟨b8, 0, none⟩)), (38, .bool ((r1.1 != 1) || (r1.2 != 0)))] _) a w' hf hh
    clear hf hh
    refine T.cond ((r1.1 != 1) || (r1.2 != 0)) (by kernel_rfl) (by kernel_rfl) (fun hc1 => ?_) (fun hc1 => ?_)
    ·
      rw [hc1, cond_true] at hF
      refine T.seq ?_
      refine T.region ?_
      refine T.pure (.bool false) (by kernel_rfl) (fun _ => by kernel_rfl) ?_
      refine T.nil ?_
      cases hF
      refine T.ret rfl ?_
      exact T.ret1 rfl (ResIs.tmp rfl) fun w' hh => ⟨_, rfl, hh.below, (show _ from rfl)⟩
    ·
      rw [hc1, cond_false] at hF
      refine T.skip_code ?_
      refine T.seq ?_
      refine T.seq ?_
      refine T.region ?_
      refine T.look (.agg #[.int .i64 2, .slice none 0 0, .slice (some ⟨b5, 0, none⟩) 2 2, .slice (some ⟨b6, 0, none⟩) 1 1, .slice (some ⟨b7, 0, none⟩) 2 2]) (by kernel_rfl) (fun w' hh => exec_loadN (cs := [.int .i64 2, .slice none 0 0, .slice (some ⟨b5, 0, none⟩) 2 2, .slice (some ⟨b6, 0, none⟩) 1 1, .slice (some ⟨b7, 0, none⟩) 2 2]) rfl rfl (by kernel_rfl) (by kernel_rfl) (fun j u hj => (hh.box_at (i := 0) (cs := [.int .i64 2, .slice none 0 0, .slice (some ⟨b5, 0, none⟩) 2 2, .slice (some ⟨b6, 0, none⟩) 1 1, .slice (some ⟨b7, 0, none⟩) 2 2]) (by rfl) 0 j).trans (seg_at (n := 5) rfl hj))) ?_
      obtain ⟨r2, hb2, hF⟩ := Option.bind_eq_some_iff.1 hF
      refine T.step (W1.call (vT2 (vSc eInt) (vSc eInt)) r2 21 #[.agg #[.int .i64 2, .slice none 0 0, .slice (some ⟨b5, 0, none⟩) 2 2, .slice (some ⟨b6, 0, none⟩) 1 1, .slice (some ⟨b7, 0, none⟩) 2 2]] (by kernel_rfl) (fun _ => by kernel_rfl) (fun w' hh => node_Tid_l F (DNode.mk 2 [] [1, 2] [(DSpot.mk (DKey.mk 0 0 0) 5)] [3, 4]) r2 hb2 w' none 0 (SlOk.nil _ _) (some ⟨b5, 0, none⟩) 2 (slok_lit (E := eInt) (f := (fun x => [.int .i64 x])) [1, 2] (fun _ _ => rfl) (Nat.le_of_ble_eq_true (by rfl)) (fun j => hh.cellBox (i := 3) (by rfl) j)) (some ⟨b6, 0, none⟩) 1 (slok_lit (E := eSpot) (f := DSpot.cells) [(DSpot.mk (DKey.mk 0 0 0) 5)] (fun _ _ => rfl) (Nat.le_of_ble_eq_true (by rfl)) (fun j => hh.cellBox (i := 2) (by rfl) j)) (some ⟨b7, 0, none⟩) 2 (slok_lit (E := eInt) (f := (fun x => [.int .i64 x])) [3, 4] (fun _ _ => rfl) (Nat.le_of_ble_eq_true (by rfl)) (fun j => hh.cellBox (i := 1) (by rfl) j))) ?_)
      intro u V2 hV2 hu
      obtain rfl := (Sure.t2 sureInt sureInt) _ _ _ hu
      refine T.pure (.tuple #[.int .i64 r2.1, .int .i64 r2.2]) (by kernel_rfl) (fun _ => by kernel_rfl) ?_
      refine T.pure (.int .i64 r2.1) (by kernel_rfl) (fun _ => by kernel_rfl) ?_
      refine T.pure (.int .i64 r2.2) (by kernel_rfl) (fun _ => by kernel_rfl) ?_
      refine T.pure (.int .i64 r2.1) (by kernel_rfl) (fun _ => by kernel_rfl) ?_
      refine T.pure (.int .i64 r2.2) (by kernel_rfl) (fun _ => by kernel_rfl) ?_
      refine T.nil ?_
      refine T.cut (fun a w' => Fr 148 [(3, .pointer (some ⟨b1, 0, none⟩)), (4, .pointer (some ⟨b2, 0, none⟩)), (5, .pointer (some ⟨b3, 0, none⟩)), (49, .bool ((r2.1 != 4) || (r2.2 != 0)))] a ∧ Hp w V2 [box b3 46 [.int .i64 p2.key.pfs, .int .i64 p2.key.obj, .int .i64 p2.key.off, .int .i64 p2.made], box b2 46 [.int .i64 p1.key.pfs, .int .i64 p1.key.obj, .int .i64 p1.key.off, .int .i64 p1.made], box b1 26 [.int .i64 p0.kind, .slice A1 p0.elems.length c1, .slice A2 p0.kids.length c2, .slice A3 p0.seps.length c3, .slice A4 p0.tids.length c4]] w') ?_ ?_
      ·
        refine T.region ?_
        refine T.pure (.int .i64 r2.1) (by kernel_rfl) (fun _ => by kernel_rfl) ?_
        refine T.pure (.bool (r2.1 != 4)) (by kernel_rfl) (fun _ => by kernel_rfl) ?_
        refine T.pure (.bool (r2.1 != 4)) (by kernel_rfl) (fun _ => by kernel_rfl) ?_
        cases hg2 : (r2.1 != 4)
        ·
          skip
          refine T.pure (.int .i64 r2.2) (by kernel_rfl) (fun _ => by kernel_rfl) ?_
          refine T.pure (.bool (r2.2 != 0)) (by kernel_rfl) (fun _ => by kernel_rfl) ?_
          refine T.pure (.bool (r2.2 != 0)) (by kernel_rfl) (fun _ => by kernel_rfl) ?_
          refine T.nil ?_
          exact fun a w' hf hh => And.intro (((((Fr.nil hf).pick hf 49 rfl).pick hf 5 rfl).pick hf 4 rfl).pick hf 3 rfl) (hh.sub (.cons _ (.cons _ (.cons _ (.cons _ (.cons_cons _ (.cons_cons _ (.cons_cons _ List.Sublist.slnil))))))))
        ·
          skip
          refine T.pass (by kernel_rfl) (by kernel_rfl) ?_
          refine T.pass (by kernel_rfl) (by kernel_rfl) ?_
          refine T.pure (.bool true) (by kernel_rfl) (fun _ => by kernel_rfl) ?_
          refine T.nil ?_
          exact fun a w' hf hh => And.intro (((((Fr.nil hf).pick hf 49 rfl).pick hf 5 rfl).pick hf 4 rfl).pick hf 3 rfl) (hh.sub (.cons _ (.cons _ (.cons _ (.cons _ (.cons_cons _ (.cons_cons _ (.cons_cons _ List.Sublist.slnil))))))))
      ·
        rintro a w' ⟨hf, hh⟩
        refine (?_ : T 148 w V2 [box b3 46 [.int .i64 p2.key.pfs, .int .i64 p2.key.obj, .int .i64 p2.key.off, .int .i64 p2.made], box b2 46 [.int .i64 p1.key.pfs, .int .i64 p1.key.obj, .int .i64 p1.key.off, .int .i64 p1.made], box b1 26 [.int .i64 p0.kind, .slice A1 p0.elems.length c1, .slice A2 p0.kids.length c2, .slice A3 p0.seps.length c3, .slice A4 p0.tids.length c4]] [(3, .pointer (some ⟨b1, 0, none⟩)), (4, .pointer (some ⟨b2, 0, none⟩)), (5, .pointer (some ⟨b3, 0, none⟩)), (49, .bool ((r2.1 != 4) || (r2.2 != 0)))] _) a w' hf hh
        clear hf hh
        refine T.cond ((r2.1 != 4) || (r2.2 != 0)) (by kernel_rfl) (by kernel_rfl) (fun hc2 => ?_) (fun hc2 => ?_)
        ·
          rw [hc2, cond_true] at hF
          refine T.seq ?_
          refine T.region ?_
          refine T.pure (.bool false) (by kernel_rfl) (fun _ => by kernel_rfl) ?_
          refine T.nil ?_
          cases hF
          refine T.ret rfl ?_
          exact T.ret1 rfl (ResIs.tmp rfl) fun w' hh => ⟨_, rfl, hh.below, (show _ from rfl)⟩
        ·
          rw [hc2, cond_false] at hF
          refine T.skip_code ?_
          refine T.seq ?_
          refine T.region ?_
          refine T.look (.agg #[.int .i64 p0.kind, .slice A1 p0.elems.length c1, .slice A2 p0.kids.length c2, .slice A3 p0.seps.length c3, .slice A4 p0.tids.length c4]) (by kernel_rfl) (fun w' hh => exec_loadN (cs := [.int .i64 p0.kind, .slice A1 p0.elems.length c1, .slice A2 p0.kids.length c2, .slice A3 p0.seps.length c3, .slice A4 p0.tids.length c4]) rfl rfl (by kernel_rfl) (by kernel_rfl) (fun j u hj => (hh.box_at (i := 2) (cs := [.int .i64 p0.kind, .slice A1 p0.elems.length c1, .slice A2 p0.kids.length c2, .slice A3 p0.seps.length c3, .slice A4 p0.tids.length c4]) (by rfl) 0 j).trans (seg_at (n := 5) rfl hj))) ?_
          refine T.look (.agg #[.int .i64 p1.key.pfs, .int .i64 p1.key.obj, .int .i64 p1.key.off, .int .i64 p1.made]) (by kernel_rfl) (fun w' hh => exec_loadN (cs := [.int .i64 p1.key.pfs, .int .i64 p1.key.obj, .int .i64 p1.key.off, .int .i64 p1.made]) rfl rfl (by kernel_rfl) (by kernel_rfl) (fun j u hj => (hh.box_at (i := 1) (cs := [.int .i64 p1.key.pfs, .int .i64 p1.key.obj, .int .i64 p1.key.off, .int .i64 p1.made]) (by rfl) 0 j).trans (seg_at (n := 4) rfl hj))) ?_
          obtain ⟨r3, hb3, hF⟩ := Option.bind_eq_some_iff.1 hF
          refine T.step (W1.call (vT2 (vSc eInt) (vSc eInt)) r3 29 #[.agg #[.int .i64 p0.kind, .slice A1 p0.elems.length c1, .slice A2 p0.kids.length c2, .slice A3 p0.seps.length c3, .slice A4 p0.tids.length c4], .agg #[.int .i64 p1.key.pfs, .int .i64 p1.key.obj, .int .i64 p1.key.off, .int .i64 p1.made]] (by kernel_rfl) (fun _ => by kernel_rfl) (fun w' hh => node_Kid_l F p0 p1 r3 hb3 w' A1 c1 (SlOk.mono (SlOk.mono hs1 (View.le_trans hV1 hV2)) hh.view) A2 c2 (SlOk.mono (SlOk.mono hs2 (View.le_trans hV1 hV2)) hh.view) A3 c3 (SlOk.mono (SlOk.mono hs3 (View.le_trans hV1 hV2)) hh.view) A4 c4 (SlOk.mono (SlOk.mono hs4 (View.le_trans hV1 hV2)) hh.view)) ?_)
          intro u V3 hV3 hu
          obtain rfl := (Sure.t2 sureInt sureInt) _ _ _ hu
          refine T.pure (.tuple #[.int .i64 r3.1, .int .i64 r3.2]) (by kernel_rfl) (fun _ => by kernel_rfl) ?_
          refine T.pure (.int .i64 r3.1) (by kernel_rfl) (fun _ => by kernel_rfl) ?_
          refine T.pure (.int .i64 r3.2) (by kernel_rfl) (fun _ => by kernel_rfl) ?_
          refine T.pure (.int .i64 r3.1) (by kernel_rfl) (fun _ => by kernel_rfl) ?_
          refine T.pure (.int .i64 r3.2) (by kernel_rfl) (fun _ => by kernel_rfl) ?_
          refine T.nil ?_
          refine T.seq ?_
          refine T.region ?_
          refine T.look (.agg #[.int .i64 p0.kind, .slice A1 p0.elems.length c1, .slice A2 p0.kids.length c2, .slice A3 p0.seps.length c3, .slice A4 p0.tids.length c4]) (by kernel_rfl) (fun w' hh => exec_loadN (cs := [.int .i64 p0.kind, .slice A1 p0.elems.length c1, .slice A2 p0.kids.length c2, .slice A3 p0.seps.length c3, .slice A4 p0.tids.length c4]) rfl rfl (by kernel_rfl) (by kernel_rfl) (fun j u hj => (hh.box_at (i := 2) (cs := [.int .i64 p0.kind, .slice A1 p0.elems.length c1, .slice A2 p0.kids.length c2, .slice A3 p0.seps.length c3, .slice A4 p0.tids.length c4]) (by rfl) 0 j).trans (seg_at (n := 5) rfl hj))) ?_
          refine T.look (.agg #[.int .i64 p2.key.pfs, .int .i64 p2.key.obj, .int .i64 p2.key.off, .int .i64 p2.made]) (by kernel_rfl) (fun w' hh => exec_loadN (cs := [.int .i64 p2.key.pfs, .int .i64 p2.key.obj, .int .i64 p2.key.off, .int .i64 p2.made]) rfl rfl (by kernel_rfl) (by kernel_rfl) (fun j u hj => (hh.box_at (i := 0) (cs := [.int .i64 p2.key.pfs, .int .i64 p2.key.obj, .int .i64 p2.key.off, .int .i64 p2.made]) (by rfl) 0 j).trans (seg_at (n := 4) rfl hj))) ?_
          obtain ⟨r4, hb4, hF⟩ := Option.bind_eq_some_iff.1 hF
          refine T.step (W1.call (vT2 (vSc eInt) (vSc eInt)) r4 29 #[.agg #[.int .i64 p0.kind, .slice A1 p0.elems.length c1, .slice A2 p0.kids.length c2, .slice A3 p0.seps.length c3, .slice A4 p0.tids.length c4], .agg #[.int .i64 p2.key.pfs, .int .i64 p2.key.obj, .int .i64 p2.key.off, .int .i64 p2.made]] (by kernel_rfl) (fun _ => by kernel_rfl) (fun w' hh => node_Kid_l F p0 p2 r4 hb4 w' A1 c1 (SlOk.mono (SlOk.mono hs1 (View.le_trans (View.le_trans hV1 hV2) hV3)) hh.view) A2 c2 (SlOk.mono (SlOk.mono hs2 (View.le_trans (View.le_trans hV1 hV2) hV3)) hh.view) A3 c3 (SlOk.mono (SlOk.mono hs3 (View.le_trans (View.le_trans hV1 hV2) hV3)) hh.view) A4 c4 (SlOk.mono (SlOk.mono hs4 (View.le_trans (View.le_trans hV1 hV2) hV3)) hh.view)) ?_)
          intro u V4 hV4 hu
          obtain rfl := (Sure.t2 sureInt sureInt) _ _ _ hu
          refine T.pure (.tuple #[.int .i64 r4.1, .int .i64 r4.2]) (by kernel_rfl) (fun _ => by kernel_rfl) ?_
          refine T.pure (.int .i64 r4.1) (by kernel_rfl) (fun _ => by kernel_rfl) ?_
          refine T.pure (.int .i64 r4.2) (by kernel_rfl) (fun _ => by kernel_rfl) ?_
          refine T.pure (.int .i64 r4.1) (by kernel_rfl) (fun _ => by kernel_rfl) ?_
          refine T.pure (.int .i64 r4.2) (by kernel_rfl) (fun _ => by kernel_rfl) ?_
          refine T.nil ?_
          refine T.seq ?_
          refine T.cut (fun a w' => Fr 148 [(3, .pointer (some ⟨b1, 0, none⟩)), (4, .pointer (some ⟨b2, 0, none⟩)), (5, .pointer (some ⟨b3, 0, none⟩)), (13, .int .i64 r3.1), (14, .int .i64 r3.2), (15, .int .i64 r4.1), (16, .int .i64 r4.2), (67, .bool ((r3.2 != 0) || (r4.2 != 0)))] a ∧ Hp w V4 [box b3 46 [.int .i64 p2.key.pfs, .int .i64 p2.key.obj, .int .i64 p2.key.off, .int .i64 p2.made], box b2 46 [.int .i64 p1.key.pfs, .int .i64 p1.key.obj, .int .i64 p1.key.off, .int .i64 p1.made], box b1 26 [.int .i64 p0.kind, .slice A1 p0.elems.length c1, .slice A2 p0.kids.length c2, .slice A3 p0.seps.length c3, .slice A4 p0.tids.length c4]] w') ?_ ?_
          ·
            refine T.region ?_
            refine T.pure (.int .i64 r3.2) (by kernel_rfl) (fun _ => by kernel_rfl) ?_
            refine T.pure (.bool (r3.2 != 0)) (by kernel_rfl) (fun _ => by kernel_rfl) ?_
            refine T.pure (.bool (r3.2 != 0)) (by kernel_rfl) (fun _ => by kernel_rfl) ?_
            cases hg3 : (r3.2 != 0)
            ·
              skip
              refine T.pure (.int .i64 r4.2) (by kernel_rfl) (fun _ => by kernel_rfl) ?_
              refine T.pure (.bool (r4.2 != 0)) (by kernel_rfl) (fun _ => by kernel_rfl) ?_
              refine T.pure (.bool (r4.2 != 0)) (by kernel_rfl) (fun _ => by kernel_rfl) ?_
              refine T.nil ?_
              exact fun a w' hf hh => And.intro (((((((((Fr.nil hf).pick hf 67 rfl).pick hf 16 rfl).pick hf 15 rfl).pick hf 14 rfl).pick hf 13 rfl).pick hf 5 rfl).pick hf 4 rfl).pick hf 3 rfl) (hh.sub (.cons_cons _ (.cons_cons _ (.cons_cons _ List.Sublist.slnil))))
            ·
              skip
              refine T.pass (by kernel_rfl) (by kernel_rfl) ?_
              refine T.pass (by kernel_rfl) (by kernel_rfl) ?_
              refine T.pure (.bool true) (by kernel_rfl) (fun _ => by kernel_rfl) ?_
              refine T.nil ?_
              exact fun a w' hf hh => And.intro (((((((((Fr.nil hf).pick hf 67 rfl).pick hf 16 rfl).pick hf 15 rfl).pick hf 14 rfl).pick hf 13 rfl).pick hf 5 rfl).pick hf 4 rfl).pick hf 3 rfl) (hh.sub (.cons_cons _ (.cons_cons _ (.cons_cons _ List.Sublist.slnil))))
          ·
            rintro a w' ⟨hf, hh⟩
            refine (?_ : T 148 w V4 [box b3 46 [.int .i64 p2.key.pfs, .int .i64 p2.key.obj, .int .i64 p2.key.off, .int .i64 p2.made], box b2 46 [.int .i64 p1.key.pfs, .int .i64 p1.key.obj, .int .i64 p1.key.off, .int .i64 p1.made], box b1 26 [.int .i64 p0.kind, .slice A1 p0.elems.length c1, .slice A2 p0.kids.length c2, .slice A3 p0.seps.length c3, .slice A4 p0.tids.length c4]] [(3, .pointer (some ⟨b1, 0, none⟩)), (4, .pointer (some ⟨b2, 0, none⟩)), (5, .pointer (some ⟨b3, 0, none⟩)), (13, .int .i64 r3.1), (14, .int .i64 r3.2), (15, .int .i64 r4.1), (16, .int .i64 r4.2), (67, .bool ((r3.2 != 0) || (r4.2 != 0)))] _) a w' hf hh
            clear hf hh
            refine T.cond ((r3.2 != 0) || (r4.2 != 0)) (by kernel_rfl) (by kernel_rfl) (fun hc3 => ?_) (fun hc3 => ?_)
            ·
              rw [hc3, cond_true] at hF
              refine T.cut (fun a w' => Fr 148 [(6, .bool ((r3.2 == r4.2) && (r3.1 == 0)))] a ∧ Hp w V4 [] w') ?_ ?_
              ·
                refine T.region ?_
                refine T.pure (.int .i64 r3.2) (by kernel_rfl) (fun _ => by kernel_rfl) ?_
                refine T.pure (.int .i64 r4.2) (by kernel_rfl) (fun _ => by kernel_rfl) ?_
                refine T.pure (.bool (r3.2 == r4.2)) (by kernel_rfl) (fun _ => by kernel_rfl) ?_
                refine T.pure (.bool (r3.2 == r4.2)) (by kernel_rfl) (fun _ => by kernel_rfl) ?_
                cases hg4 : (r3.2 == r4.2)
                ·
                  skip
                  refine T.pass (by kernel_rfl) (by kernel_rfl) ?_
                  refine T.pass (by kernel_rfl) (by kernel_rfl) ?_
                  refine T.pure (.bool false) (by kernel_rfl) (fun _ => by kernel_rfl) ?_
                  refine T.pure (.bool false) (by kernel_rfl) (fun _ => by kernel_rfl) ?_
                  refine T.nil ?_
                  exact fun a w' hf hh => And.intro ((Fr.nil hf).pick hf 6 rfl) (hh.sub (.cons _ (.cons _ (.cons _ List.Sublist.slnil))))
                ·
                  skip
                  refine T.pure (.int .i64 r3.1) (by kernel_rfl) (fun _ => by kernel_rfl) ?_
                  refine T.pure (.bool (r3.1 == 0)) (by kernel_rfl) (fun _ => by kernel_rfl) ?_
                  refine T.pure (.bool (r3.1 == 0)) (by kernel_rfl) (fun _ => by kernel_rfl) ?_
                  refine T.pure (.bool (r3.1 == 0)) (by kernel_rfl) (fun _ => by kernel_rfl) ?_
                  refine T.nil ?_
                  exact fun a w' hf hh => And.intro ((Fr.nil hf).pick hf 6 rfl) (hh.sub (.cons _ (.cons _ (.cons _ List.Sublist.slnil))))
              ·
                rintro a w' ⟨hf, hh⟩
                refine (?_ : T 148 w V4 [] [(6, .bool ((r3.2 == r4.2) && (r3.1 == 0)))] _) a w' hf hh
                clear hf hh
                cases hF
                refine T.ret rfl ?_
                exact T.ret1 rfl (ResIs.tmp rfl) fun w' hh => ⟨_, rfl, hh.below, (show _ from rfl)⟩
            ·
              rw [hc3, cond_false] at hF
              refine T.skip_code ?_
              refine T.seq ?_
              obtain ⟨z1, hX1, hF⟩ := Option.bind_eq_some_iff.1 hF
              refine T.cut (fun a w' => ∃ (V5 : View), View.le V4 V5 ∧ Fr 148 [(3, .pointer (some ⟨b1, 0, none⟩)), (4, .pointer (some ⟨b2, 0, none⟩)), (13, .int .i64 r3.1), (94, .bool z1)] a ∧ Hp w V5 [box b2 46 [.int .i64 p1.key.pfs, .int .i64 p1.key.obj, .int .i64 p1.key.off, .int .i64 p1.made], box b1 26 [.int .i64 p0.kind, .slice A1 p0.elems.length c1, .slice A2 p0.kids.length c2, .slice A3 p0.seps.length c3, .slice A4 p0.tids.length c4]] w') ?_ ?_
              ·
                refine T.region ?_
                refine T.pure (.int .i64 r3.1) (by kernel_rfl) (fun _ => by kernel_rfl) ?_
                refine T.pure (.bool (decide (r3.1 < 0))) (by kernel_rfl) (fun _ => by kernel_rfl) ?_
                refine T.pure (.bool (decide (r3.1 < 0))) (by kernel_rfl) (fun _ => by kernel_rfl) ?_
                cases hg5 : decide (r3.1 < 0)
                ·
                  skip
                  rw [hg5, cond_false] at hX1
                  refine T.pure (.int .i64 r3.1) (by kernel_rfl) (fun _ => by kernel_rfl) ?_
                  refine T.pure (.pointer (some ⟨b1, 2, none⟩)) (by kernel_rfl) (fun _ => by kernel_rfl) ?_
                  refine T.look (.slice A2 p0.kids.length c2) (by kernel_rfl) (fun w' hh => exec_load1 rfl rfl (by kernel_rfl) (hh.cellBox (i := 2) (by rfl) 2)) ?_
                  refine T.pure (.int .i64 (p0.kids.length : Int)) (by kernel_rfl) (fun _ => by kernel_rfl) ?_
                  refine T.pure (.bool (decide ((p0.kids.length : Int) ≤ r3.1))) (by kernel_rfl) (fun _ => by kernel_rfl) ?_
                  refine T.pure (.bool (decide ((p0.kids.length : Int) ≤ r3.1))) (by kernel_rfl) (fun _ => by kernel_rfl) ?_
                  refine T.pure (.bool (decide ((p0.kids.length : Int) ≤ r3.1))) (by kernel_rfl) (fun _ => by kernel_rfl) ?_
                  cases hg6 : decide ((p0.kids.length : Int) ≤ r3.1)
                  ·
                    skip
                    rw [hg6, cond_false] at hX1
                    refine T.look (.agg #[.int .i64 p1.key.pfs, .int .i64 p1.key.obj, .int .i64 p1.key.off, .int .i64 p1.made]) (by kernel_rfl) (fun w' hh => exec_loadN (cs := [.int .i64 p1.key.pfs, .int .i64 p1.key.obj, .int .i64 p1.key.off, .int .i64 p1.made]) rfl rfl (by kernel_rfl) (by kernel_rfl) (fun j u hj => (hh.box_at (i := 1) (cs := [.int .i64 p1.key.pfs, .int .i64 p1.key.obj, .int .i64 p1.key.off, .int .i64 p1.made]) (by rfl) 0 j).trans (seg_at (n := 4) rfl hj))) ?_
                    refine T.look (.agg #[.int .i64 p2.key.pfs, .int .i64 p2.key.obj, .int .i64 p2.key.off, .int .i64 p2.made]) (by kernel_rfl) (fun w' hh => exec_loadN (cs := [.int .i64 p2.key.pfs, .int .i64 p2.key.obj, .int .i64 p2.key.off, .int .i64 p2.made]) rfl rfl (by kernel_rfl) (by kernel_rfl) (fun j u hj => (hh.box_at (i := 0) (cs := [.int .i64 p2.key.pfs, .int .i64 p2.key.obj, .int .i64 p2.key.off, .int .i64 p2.made]) (by rfl) 0 j).trans (seg_at (n := 4) rfl hj))) ?_
                    obtain ⟨r5, hb5, hX1⟩ := Option.bind_eq_some_iff.1 hX1
                    refine T.step (W1.call (vSc eInt) r5 30 #[.agg #[.int .i64 p1.key.pfs, .int .i64 p1.key.obj, .int .i64 p1.key.off, .int .i64 p1.made], .agg #[.int .i64 p2.key.pfs, .int .i64 p2.key.obj, .int .i64 p2.key.off, .int .i64 p2.made]] (by kernel_rfl) (fun _ => by kernel_rfl) (fun w' hh => key_CmpSpot_l p1 p2 r5 hb5 w' ) ?_)
                    intro u V6 hV6 hu
                    obtain rfl := sureInt _ _ _ hu
                    refine T.pure (.bool (decide (r5 ≤ 0))) (by kernel_rfl) (fun _ => by kernel_rfl) ?_
                    refine T.pure (.bool (decide (r5 ≤ 0))) (by kernel_rfl) (fun _ => by kernel_rfl) ?_
                    cases hg7 : decide (r5 ≤ 0)
                    ·
                      skip
                      rw [hg7, cond_false] at hX1
                      refine T.pass (by kernel_rfl) (by kernel_rfl) ?_
                      refine T.pass (by kernel_rfl) (by kernel_rfl) ?_
                      refine T.pass (by kernel_rfl) (by kernel_rfl) ?_
                      refine T.pure (.bool false) (by kernel_rfl) (fun _ => by kernel_rfl) ?_
                      refine T.pure (.bool false) (by kernel_rfl) (fun _ => by kernel_rfl) ?_
                      refine T.nil ?_
                      cases hX1
                      exact fun a w' hf hh => Exists.intro V6 (And.intro hV6 (And.intro (((((Fr.nil hf).pick hf 94 rfl).pick hf 13 rfl).pick hf 4 rfl).pick hf 3 rfl) (hh.sub (.cons _ (.cons_cons _ (.cons_cons _ List.Sublist.slnil))))))
                    ·
                      skip
                      rw [hg7, cond_true] at hX1
                      refine T.pure (.int .i64 r3.1) (by kernel_rfl) (fun _ => by kernel_rfl) ?_
                      refine T.pure (.int .i64 r4.1) (by kernel_rfl) (fun _ => by kernel_rfl) ?_
                      refine T.pure (.bool (decide (r4.1 < r3.1))) (by kernel_rfl) (fun _ => by kernel_rfl) ?_
                      refine T.pure (.bool (decide (r4.1 < r3.1))) (by kernel_rfl) (fun _ => by kernel_rfl) ?_
                      refine T.pure (.bool (decide (r4.1 < r3.1))) (by kernel_rfl) (fun _ => by kernel_rfl) ?_
                      refine T.nil ?_
                      cases hX1
                      exact fun a w' hf hh => Exists.intro V6 (And.intro hV6 (And.intro (((((Fr.nil hf).pick hf 94 rfl).pick hf 13 rfl).pick hf 4 rfl).pick hf 3 rfl) (hh.sub (.cons _ (.cons_cons _ (.cons_cons _ List.Sublist.slnil))))))
                  ·
                    skip
                    rw [hg6, cond_true] at hX1
                    refine T.pass (by kernel_rfl) (by kernel_rfl) ?_
                    refine T.pass (by kernel_rfl) (by kernel_rfl) ?_
                    refine T.pass (by kernel_rfl) (by kernel_rfl) ?_
                    refine T.pass (by kernel_rfl) (by kernel_rfl) ?_
                    refine T.pass (by kernel_rfl) (by kernel_rfl) ?_
                    refine T.pass (by kernel_rfl) (by kernel_rfl) ?_
                    refine T.pass (by kernel_rfl) (by kernel_rfl) ?_
                    refine T.pass (by kernel_rfl) (by kernel_rfl) ?_
                    refine T.pass (by kernel_rfl) (by kernel_rfl) ?_
                    refine T.pure (.bool true) (by kernel_rfl) (fun _ => by kernel_rfl) ?_
                    refine T.nil ?_
                    cases hX1
                    exact fun a w' hf hh => Exists.intro V4 (And.intro (View.le_refl _) (And.intro (((((Fr.nil hf).pick hf 94 rfl).pick hf 13 rfl).pick hf 4 rfl).pick hf 3 rfl) (hh.sub (.cons _ (.cons_cons _ (.cons_cons _ List.Sublist.slnil))))))
                ·
                  skip
                  rw [hg5, cond_true] at hX1
                  refine T.pass (by kernel_rfl) (by kernel_rfl) ?_
                  refine T.pass (by kernel_rfl) (by kernel_rfl) ?_
                  refine T.pass (by kernel_rfl) (by kernel_rfl) ?_
                  refine T.pass (by kernel_rfl) (by kernel_rfl) ?_
                  refine T.pass (by kernel_rfl) (by kernel_rfl) ?_
                  refine T.pure (.bool true) (by kernel_rfl) (fun _ => by kernel_rfl) ?_
                  refine T.pure (.bool true) (by kernel_rfl) (fun _ => by kernel_rfl) ?_
                  refine T.pass (by kernel_rfl) (by kernel_rfl) ?_
                  refine T.pass (by kernel_rfl) (by kernel_rfl) ?_
                  refine T.pass (by kernel_rfl) (by kernel_rfl) ?_
                  refine T.pass (by kernel_rfl) (by kernel_rfl) ?_
                  refine T.pass (by kernel_rfl) (by kernel_rfl) ?_
                  refine T.pass (by kernel_rfl) (by kernel_rfl) ?_
                  refine T.pass (by kernel_rfl) (by kernel_rfl) ?_
                  refine T.pass (by kernel_rfl) (by kernel_rfl) ?_
                  refine T.pass (by kernel_rfl) (by kernel_rfl) ?_
                  refine T.pure (.bool true) (by kernel_rfl) (fun _ => by kernel_rfl) ?_
                  refine T.nil ?_
                  cases hX1
                  exact fun a w' hf hh => Exists.intro V4 (And.intro (View.le_refl _) (And.intro (((((Fr.nil hf).pick hf 94 rfl).pick hf 13 rfl).pick hf 4 rfl).pick hf 3 rfl) (hh.sub (.cons _ (.cons_cons _ (.cons_cons _ List.Sublist.slnil))))))
              ·
                rintro a w' ⟨V5, hV5, hf, hh⟩
                refine (?_ : T 148 w V5 [box b2 46 [.int .i64 p1.key.pfs, .int .i64 p1.key.obj, .int .i64 p1.key.off, .int .i64 p1.made], box b1 26 [.int .i64 p0.kind, .slice A1 p0.elems.length c1, .slice A2 p0.kids.length c2, .slice A3 p0.seps.length c3, .slice A4 p0.tids.length c4]] [(3, .pointer (some ⟨b1, 0, none⟩)), (4, .pointer (some ⟨b2, 0, none⟩)), (13, .int .i64 r3.1), (94, .bool z1)] _) a w' hf hh
                clear hf hh
                refine T.cond z1 (by kernel_rfl) (by kernel_rfl) (fun hc4 => ?_) (fun hc4 => ?_)
                ·
                  rw [hc4, cond_true] at hF
                  refine T.seq ?_
                  refine T.region ?_
                  refine T.pure (.bool false) (by kernel_rfl) (fun _ => by kernel_rfl) ?_
                  refine T.nil ?_
                  cases hF
                  refine T.ret rfl ?_
                  exact T.ret1 rfl (ResIs.tmp rfl) fun w' hh => ⟨_, rfl, hh.below, (show _ from rfl)⟩
                ·
                  rw [hc4, cond_false] at hF
                  refine T.skip_code ?_
                  refine T.seq ?_
                  refine T.seq ?_
                  refine T.region ?_
                  refine T.pure (.pointer (some ⟨b1, 3, none⟩)) (by kernel_rfl) (fun _ => by kernel_rfl) ?_
                  refine T.look (.slice A3 p0.seps.length c3) (by kernel_rfl) (fun w' hh => exec_load1 rfl rfl (by kernel_rfl) (hh.cellBox (i := 1) (by rfl) 3)) ?_
                  refine T.pure (.int .i64 (p0.seps.length : Int)) (by kernel_rfl) (fun _ => by kernel_rfl) ?_
                  refine T.pure (.int .i64 0) (by kernel_rfl) (fun _ => by kernel_rfl) ?_
                  refine T.nil ?_
                  obtain ⟨q1, hz1, hF⟩ := Option.bind_eq_some_iff.1 hF
                  refine T.mid (fun a w' => q1 = Sum.inl () ∧ ∃ (V8 : View), View.le V5 V8 ∧ Fr 148 [(3, .pointer (some ⟨b1, 0, none⟩)), (4, .pointer (some ⟨b2, 0, none⟩)), (13, .int .i64 r3.1)] a ∧ Hp w V8 [box b2 46 [.int .i64 p1.key.pfs, .int .i64 p1.key.obj, .int .i64 p1.key.off, .int .i64 p1.made], box b1 26 [.int .i64 p0.kind, .slice A1 p0.elems.length c1, .slice A2 p0.kids.length c2, .slice A3 p0.seps.length c3, .slice A4 p0.tids.length c4]] w') ?_ ?_
                  ·
                    refine T.block ?_
                    refine T.iter (fun x1 a w' => ∃ (V7 : View), View.le V5 V7 ∧ Fr 148 [(3, .pointer (some ⟨b1, 0, none⟩)), (4, .pointer (some ⟨b2, 0, none⟩)), (13, .int .i64 r3.1), (96, .slice A3 p0.seps.length c3), (97, .int .i64 (p0.seps.length : Int)), (98, .int .i64 x1)] a ∧ Hp w V7 [box b2 46 [.int .i64 p1.key.pfs, .int .i64 p1.key.obj, .int .i64 p1.key.off, .int .i64 p1.made], box b1 26 [.int .i64 p0.kind, .slice A1 p0.elems.length c1, .slice A2 p0.kids.length c2, .slice A3 p0.seps.length c3, .slice A4 p0.tids.length c4]] w') hz1 ?_ ?_
                    ·
                      exact fun a w' hf hh => Exists.intro V5 (And.intro (View.le_refl _) (And.intro (((((((Fr.nil hf).pick hf 98 rfl).pick hf 97 rfl).pick hf 96 rfl).pick hf 13 rfl).pick hf 4 rfl).pick hf 3 rfl) (hh.sub (.cons_cons _ (.cons_cons _ List.Sublist.slnil)))))
                    ·
                      rintro x1 y1 hY1 hr1 a w' ⟨V7, hV7, hf, hh⟩
                      refine (?_ : T 148 w V7 [box b2 46 [.int .i64 p1.key.pfs, .int .i64 p1.key.obj, .int .i64 p1.key.off, .int .i64 p1.made], box b1 26 [.int .i64 p0.kind, .slice A1 p0.elems.length c1, .slice A2 p0.kids.length c2, .slice A3 p0.seps.length c3, .slice A4 p0.tids.length c4]] [(3, .pointer (some ⟨b1, 0, none⟩)), (4, .pointer (some ⟨b2, 0, none⟩)), (13, .int .i64 r3.1), (96, .slice A3 p0.seps.length c3), (97, .int .i64 (p0.seps.length : Int)), (98, .int .i64 x1)] _) a w' hf hh
                      clear hf hh
                      try dsimp only at hY1
                      refine T.seq ?_
                      refine T.region ?_
                      refine T.pure (.bool (decide (x1 < (p0.seps.length : Int)))) (by kernel_rfl) (fun _ => by kernel_rfl) ?_
                      refine T.nil ?_
                      refine T.seq ?_
                      refine T.cond (decide (x1 < (p0.seps.length : Int))) (by kernel_rfl) (by kernel_rfl) (fun hc5 => ?_) (fun hc5 => ?_)
                      ·
                        rw [hc5, cond_true] at hY1
                        refine T.skip_code ?_
                        refine T.seq ?_
                        refine T.block ?_
                        refine T.seq ?_
                        refine T.region ?_
                        refine T.pure (.int .i64 x1) (by kernel_rfl) (fun _ => by kernel_rfl) ?_
                        obtain ⟨e1, hb6, hY1⟩ := Option.bind_eq_some_iff.1 hY1
                        obtain ⟨hi1, hi2, hi3⟩ := idx_some hb6
                        refine T.look (.pointer (some ((sadr A3).add (x1.toNat * 4)))) (by kernel_rfl) (fun w' hh => exec_indexAddr (e := 46) (s := 4) rfl rfl rfl (by kernel_rfl) (by kernel_rfl) hi1 hi2 ((SlOk.mono hs3 (View.le_trans (View.le_trans (View.le_trans (View.le_trans (View.le_trans hV1 hV2) hV3) hV4) hV5) hV7)).some_ hi3 (by decide))) ?_
                        refine T.look (.agg #[.int .i64 e1.key.pfs, .int .i64 e1.key.obj, .int .i64 e1.key.off, .int .i64 e1.made]) (by kernel_rfl) (fun w' hh => exec_loadN (cs := [.int .i64 e1.key.pfs, .int .i64 e1.key.obj, .int .i64 e1.key.off, .int .i64 e1.made]) rfl rfl (by kernel_rfl) (by kernel_rfl) (fun j u hj => (hh.cell_view (SlOk.cellF (E := eSpot) (SlOk.mono hs3 (View.le_trans (View.le_trans (View.le_trans (View.le_trans (View.le_trans hV1 hV2) hV3) hV4) hV5) hV7)) hi3 j (fun _ _ _ h => h) hj)))) ?_
                        refine T.step (W1.new 46 [.int .i64 0, .int .i64 0, .int .i64 0, .int .i64 0] (fun b => .pointer (some ⟨b, 0, none⟩)) (by kernel_rfl) (fun _ => by kernel_rfl) (fun b9 => ?_))
                        refine T.pure (.int .i64 x1) (by kernel_rfl) (fun _ => by kernel_rfl) ?_
                        refine T.step (W1.store 0 [.int .i64 e1.key.pfs, .int .i64 e1.key.obj, .int .i64 e1.key.off, .int .i64 e1.made] [box b9 46 [.int .i64 e1.key.pfs, .int .i64 e1.key.obj, .int .i64 e1.key.off, .int .i64 e1.made], box b2 46 [.int .i64 p1.key.pfs, .int .i64 p1.key.obj, .int .i64 p1.key.off, .int .i64 p1.made], box b1 26 [.int .i64 p0.kind, .slice A1 p0.elems.length c1, .slice A2 p0.kids.length c2, .slice A3 p0.seps.length c3, .slice A4 p0.tids.length c4]] (by rfl) rfl (by kernel_rfl) (fun w' hw => exec_store (vs := [.int .i64 e1.key.pfs, .int .i64 e1.key.obj, .int .i64 e1.key.off, .int .i64 e1.made]) rfl rfl rfl rfl (by kernel_rfl) (one_of rfl) (by simp) rfl hw) ?_)
                        refine T.nil ?_
                        refine T.seq ?_
                        refine T.region ?_
                        refine T.look (.agg #[.int .i64 p0.kind, .slice A1 p0.elems.length c1, .slice A2 p0.kids.length c2, .slice A3 p0.seps.length c3, .slice A4 p0.tids.length c4]) (by kernel_rfl) (fun w' hh => exec_loadN (cs := [.int .i64 p0.kind, .slice A1 p0.elems.length c1, .slice A2 p0.kids.length c2, .slice A3 p0.seps.length c3, .slice A4 p0.tids.length c4]) rfl rfl (by kernel_rfl) (by kernel_rfl) (fun j u hj => (hh.box_at (i := 2) (cs := [.int .i64 p0.kind, .slice A1 p0.elems.length c1, .slice A2 p0.kids.length c2, .slice A3 p0.seps.length c3, .slice A4 p0.tids.length c4]) (by rfl) 0 j).trans (seg_at (n := 5) rfl hj))) ?_
                        refine T.look (.agg #[.int .i64 e1.key.pfs, .int .i64 e1.key.obj, .int .i64 e1.key.off, .int .i64 e1.made]) (by kernel_rfl) (fun w' hh => exec_loadN (cs := [.int .i64 e1.key.pfs, .int .i64 e1.key.obj, .int .i64 e1.key.off, .int .i64 e1.made]) rfl rfl (by kernel_rfl) (by kernel_rfl) (fun j u hj => (hh.box_at (i := 0) (cs := [.int .i64 e1.key.pfs, .int .i64 e1.key.obj, .int .i64 e1.key.off, .int .i64 e1.made]) (by rfl) 0 j).trans (seg_at (n := 4) rfl hj))) ?_
                        obtain ⟨r6, hb7, hY1⟩ := Option.bind_eq_some_iff.1 hY1
                        refine T.step (W1.call (vT2 (vSc eInt) (vSc eInt)) r6 29 #[.agg #[.int .i64 p0.kind, .slice A1 p0.elems.length c1, .slice A2 p0.kids.length c2, .slice A3 p0.seps.length c3, .slice A4 p0.tids.length c4], .agg #[.int .i64 e1.key.pfs, .int .i64 e1.key.obj, .int .i64 e1.key.off, .int .i64 e1.made]] (by kernel_rfl) (fun _ => by kernel_rfl) (fun w' hh => node_Kid_l F p0 e1 r6 hb7 w' A1 c1 (SlOk.mono (SlOk.mono hs1 (View.le_trans (View.le_trans (View.le_trans (View.le_trans (View.le_trans hV1 hV2) hV3) hV4) hV5) hV7)) hh.view) A2 c2 (SlOk.mono (SlOk.mono hs2 (View.le_trans (View.le_trans (View.le_trans (View.le_trans (View.le_trans hV1 hV2) hV3) hV4) hV5) hV7)) hh.view) A3 c3 (SlOk.mono (SlOk.mono hs3 (View.le_trans (View.le_trans (View.le_trans (View.le_trans (View.le_trans hV1 hV2) hV3) hV4) hV5) hV7)) hh.view) A4 c4 (SlOk.mono (SlOk.mono hs4 (View.le_trans (View.le_trans (View.le_trans (View.le_trans (View.le_trans hV1 hV2) hV3) hV4) hV5) hV7)) hh.view)) ?_)
                        intro u V9 hV9 hu
                        obtain rfl := (Sure.t2 sureInt sureInt) _ _ _ hu
                        refine T.pure (.tuple #[.int .i64 r6.1, .int .i64 r6.2]) (by kernel_rfl) (fun _ => by kernel_rfl) ?_
                        refine T.pure (.int .i64 r6.1) (by kernel_rfl) (fun _ => by kernel_rfl) ?_
                        refine T.pure (.int .i64 r6.2) (by kernel_rfl) (fun _ => by kernel_rfl) ?_
                        refine T.pure (.int .i64 r6.1) (by kernel_rfl) (fun _ => by kernel_rfl) ?_
                        refine T.pure (.int .i64 r6.2) (by kernel_rfl) (fun _ => by kernel_rfl) ?_
                        refine T.nil ?_
                        refine T.cut (fun a w' => Fr 148 [(3, .pointer (some ⟨b1, 0, none⟩)), (4, .pointer (some ⟨b2, 0, none⟩)), (13, .int .i64 r3.1), (96, .slice A3 p0.seps.length c3), (97, .int .i64 (p0.seps.length : Int)), (98, .int .i64 x1), (116, .bool ((r6.2 != 0) || (r6.1 != (IntKind.i64.wrap (x1 + 1)))))] a ∧ Hp w V9 [box b2 46 [.int .i64 p1.key.pfs, .int .i64 p1.key.obj, .int .i64 p1.key.off, .int .i64 p1.made], box b1 26 [.int .i64 p0.kind, .slice A1 p0.elems.length c1, .slice A2 p0.kids.length c2, .slice A3 p0.seps.length c3, .slice A4 p0.tids.length c4]] w') ?_ ?_
                        ·
                          refine T.region ?_
                          refine T.pure (.int .i64 r6.2) (by kernel_rfl) (fun _ => by kernel_rfl) ?_
                          refine T.pure (.bool (r6.2 != 0)) (by kernel_rfl) (fun _ => by kernel_rfl) ?_
                          refine T.pure (.bool (r6.2 != 0)) (by kernel_rfl) (fun _ => by kernel_rfl) ?_
                          cases hg8 : (r6.2 != 0)
                          ·
                            skip
                            refine T.pure (.int .i64 r6.1) (by kernel_rfl) (fun _ => by kernel_rfl) ?_
                            refine T.pure (.int .i64 x1) (by kernel_rfl) (fun _ => by kernel_rfl) ?_
                            refine T.pure (.int .i64 (IntKind.i64.wrap (x1 + 1))) (by kernel_rfl) (fun _ => by kernel_rfl) ?_
                            refine T.pure (.bool (r6.1 != (IntKind.i64.wrap (x1 + 1)))) (by kernel_rfl) (fun _ => by kernel_rfl) ?_
                            refine T.pure (.bool (r6.1 != (IntKind.i64.wrap (x1 + 1)))) (by kernel_rfl) (fun _ => by kernel_rfl) ?_
                            refine T.nil ?_
                            exact fun a w' hf hh => And.intro ((((((((Fr.nil hf).pick hf 116 rfl).pick hf 98 rfl).pick hf 97 rfl).pick hf 96 rfl).pick hf 13 rfl).pick hf 4 rfl).pick hf 3 rfl) (hh.sub (.cons _ (.cons_cons _ (.cons_cons _ List.Sublist.slnil))))
                          ·
                            skip
                            refine T.pass (by kernel_rfl) (by kernel_rfl) ?_
                            refine T.pass (by kernel_rfl) (by kernel_rfl) ?_
                            refine T.pass (by kernel_rfl) (by kernel_rfl) ?_
                            refine T.pass (by kernel_rfl) (by kernel_rfl) ?_
                            refine T.pure (.bool true) (by kernel_rfl) (fun _ => by kernel_rfl) ?_
                            refine T.nil ?_
                            exact fun a w' hf hh => And.intro ((((((((Fr.nil hf).pick hf 116 rfl).pick hf 98 rfl).pick hf 97 rfl).pick hf 96 rfl).pick hf 13 rfl).pick hf 4 rfl).pick hf 3 rfl) (hh.sub (.cons _ (.cons_cons _ (.cons_cons _ List.Sublist.slnil))))
                        ·
                          rintro a w' ⟨hf, hh⟩
                          refine (?_ : T 148 w V9 [box b2 46 [.int .i64 p1.key.pfs, .int .i64 p1.key.obj, .int .i64 p1.key.off, .int .i64 p1.made], box b1 26 [.int .i64 p0.kind, .slice A1 p0.elems.length c1, .slice A2 p0.kids.length c2, .slice A3 p0.seps.length c3, .slice A4 p0.tids.length c4]] [(3, .pointer (some ⟨b1, 0, none⟩)), (4, .pointer (some ⟨b2, 0, none⟩)), (13, .int .i64 r3.1), (96, .slice A3 p0.seps.length c3), (97, .int .i64 (p0.seps.length : Int)), (98, .int .i64 x1), (116, .bool ((r6.2 != 0) || (r6.1 != (IntKind.i64.wrap (x1 + 1)))))] _) a w' hf hh
                          clear hf hh
                          refine T.cond ((r6.2 != 0) || (r6.1 != (IntKind.i64.wrap (x1 + 1)))) (by kernel_rfl) (by kernel_rfl) (fun hc6 => ?_) (fun hc6 => ?_)
                          ·
                            rw [hc6, cond_true] at hY1
                            refine T.seq ?_
                            refine T.region ?_
                            refine T.pure (.bool false) (by kernel_rfl) (fun _ => by kernel_rfl) ?_
                            refine T.nil ?_
                            cases hY1
                            cases (hr1 _ rfl)
                            try dsimp only at hF
                            cases hF
                            refine T.ret rfl ?_
                            exact T.ret1 rfl (ResIs.tmp rfl) fun w' hh => ⟨_, rfl, hh.below, (show _ from rfl)⟩
                          ·
                            rw [hc6, cond_false] at hY1
                            refine T.skip_code ?_
                            refine T.region ?_
                            refine T.pure (.int .i64 (IntKind.i64.wrap (x1 + 1))) (by kernel_rfl) (fun _ => by kernel_rfl) ?_
                            refine T.pure (.int .i64 (IntKind.i64.wrap (x1 + 1))) (by kernel_rfl) (fun _ => by kernel_rfl) ?_
                            refine T.nil ?_
                            cases hY1
                            exact fun a w' hf hh => Exists.intro (IntKind.i64.wrap (x1 + 1)) (And.intro rfl (Exists.intro V9 (And.intro (View.le_trans hV7 hV9) (And.intro (((((((Fr.nil hf).pick hf 98 rfl).pick hf 97 rfl).pick hf 96 rfl).pick hf 13 rfl).pick hf 4 rfl).pick hf 3 rfl) (hh.sub (.cons_cons _ (.cons_cons _ List.Sublist.slnil)))))))
                      ·
                        rw [hc5, cond_false] at hY1
                        refine T.exit ?_
                        cases hY1
                        cases (hr1 _ rfl)
                        exact fun a w' hf hh => And.intro rfl (Exists.intro V7 (And.intro hV7 (And.intro ((((Fr.nil hf).pick hf 13 rfl).pick hf 4 rfl).pick hf 3 rfl) (hh.sub (.cons_cons _ (.cons_cons _ List.Sublist.slnil))))))
                  ·
                    rintro a w' ⟨rfl, V8, hV8, hf, hh⟩
                    try dsimp only at hF
                    refine (?_ : T 148 w V8 [box b2 46 [.int .i64 p1.key.pfs, .int .i64 p1.key.obj, .int .i64 p1.key.off, .int .i64 p1.made], box b1 26 [.int .i64 p0.kind, .slice A1 p0.elems.length c1, .slice A2 p0.kids.length c2, .slice A3 p0.seps.length c3, .slice A4 p0.tids.length c4]] [(3, .pointer (some ⟨b1, 0, none⟩)), (4, .pointer (some ⟨b2, 0, none⟩)), (13, .int .i64 r3.1)] _) a w' hf hh
                    clear hf hh
                    obtain ⟨z2, hX2, hF⟩ := Option.bind_eq_some_iff.1 hF
                    refine T.cut (fun a w' => Fr 148 [(6, .bool z2)] a ∧ Hp w V8 [] w') ?_ ?_
                    ·
                      refine T.quiet (by kernel_rfl) (by kernel_rfl) ?_
                      refine TQ.pure (.int .i64 r3.1) (by kernel_rfl) (fun _ => by kernel_rfl) ?_
                      refine TQ.pure (.bool (r3.1 == 0)) (by kernel_rfl) (fun _ => by kernel_rfl) ?_
                      refine TQ.pure (.bool (r3.1 == 0)) (by kernel_rfl) (fun _ => by kernel_rfl) ?_
                      cases hg9 : (r3.1 == 0)
                      ·
                        skip
                        rw [hg9, cond_false] at hX2
                        refine TQ.pure (.pointer (some ⟨b1, 3, none⟩)) (by kernel_rfl) (fun _ => by kernel_rfl) ?_
                        refine TQ.look (.slice A3 p0.seps.length c3) (by kernel_rfl) (fun w' hh => exec_load1 rfl rfl (by kernel_rfl) (hh.cellBox (i := 1) (by rfl) 3)) ?_
                        refine TQ.pure (.int .i64 r3.1) (by kernel_rfl) (fun _ => by kernel_rfl) ?_
                        refine TQ.pure (.int .i64 (IntKind.i64.wrap (r3.1 - 1))) (by kernel_rfl) (fun _ => by kernel_rfl) ?_
                        obtain ⟨e2, hb8, hX2⟩ := Option.bind_eq_some_iff.1 hX2
                        obtain ⟨hi4, hi5, hi6⟩ := idx_some hb8
                        refine TQ.look (.pointer (some ((sadr A3).add (((IntKind.i64.wrap (r3.1 - 1)).toNat) * 4)))) (by kernel_rfl) (fun w' hh => exec_indexAddr (e := 46) (s := 4) rfl rfl rfl (by kernel_rfl) (by kernel_rfl) hi4 hi5 ((SlOk.mono hs3 (View.le_trans (View.le_trans (View.le_trans (View.le_trans (View.le_trans hV1 hV2) hV3) hV4) hV5) hV8)).some_ hi6 (by decide))) ?_
                        refine TQ.look (.agg #[.int .i64 e2.key.pfs, .int .i64 e2.key.obj, .int .i64 e2.key.off, .int .i64 e2.made]) (by kernel_rfl) (fun w' hh => exec_loadN (cs := [.int .i64 e2.key.pfs, .int .i64 e2.key.obj, .int .i64 e2.key.off, .int .i64 e2.made]) rfl rfl (by kernel_rfl) (by kernel_rfl) (fun j u hj => (hh.cell_view (SlOk.cellF (E := eSpot) (SlOk.mono hs3 (View.le_trans (View.le_trans (View.le_trans (View.le_trans (View.le_trans hV1 hV2) hV3) hV4) hV5) hV8)) hi6 j (fun _ _ _ h => h) hj)))) ?_
                        refine TQ.look (.agg #[.int .i64 p1.key.pfs, .int .i64 p1.key.obj, .int .i64 p1.key.off, .int .i64 p1.made]) (by kernel_rfl) (fun w' hh => exec_loadN (cs := [.int .i64 p1.key.pfs, .int .i64 p1.key.obj, .int .i64 p1.key.off, .int .i64 p1.made]) rfl rfl (by kernel_rfl) (by kernel_rfl) (fun j u hj => (hh.box_at (i := 0) (cs := [.int .i64 p1.key.pfs, .int .i64 p1.key.obj, .int .i64 p1.key.off, .int .i64 p1.made]) (by rfl) 0 j).trans (seg_at (n := 4) rfl hj))) ?_
                        obtain ⟨r7, hb9, hX2⟩ := Option.bind_eq_some_iff.1 hX2
                        refine TQ.call (vSc eInt) r7 30 #[.agg #[.int .i64 e2.key.pfs, .int .i64 e2.key.obj, .int .i64 e2.key.off, .int .i64 e2.made], .agg #[.int .i64 p1.key.pfs, .int .i64 p1.key.obj, .int .i64 p1.key.off, .int .i64 p1.made]] (.int .i64 r7) (fun V u hu => sureInt V u _ hu) (by kernel_rfl) (fun _ => by kernel_rfl) (fun w' hh => key_CmpSpot_l e2 p1 r7 hb9 w' ) ?_
                        refine TQ.pure (.bool (decide (r7 ≤ 0))) (by kernel_rfl) (fun _ => by kernel_rfl) ?_
                        refine TQ.pure (.bool (decide (r7 ≤ 0))) (by kernel_rfl) (fun _ => by kernel_rfl) ?_
                        refine TQ.pure (.bool (decide (r7 ≤ 0))) (by kernel_rfl) (fun _ => by kernel_rfl) ?_
                        cases hg10 : decide (r7 ≤ 0)
                        ·
                          skip
                          rw [hg10, cond_false] at hX2
                          refine TQ.pass (by kernel_rfl) (by kernel_rfl) ?_
                          refine TQ.pass (by kernel_rfl) (by kernel_rfl) ?_
                          refine TQ.pass (by kernel_rfl) (by kernel_rfl) ?_
                          refine TQ.pass (by kernel_rfl) (by kernel_rfl) ?_
                          refine TQ.pass (by kernel_rfl) (by kernel_rfl) ?_
                          refine TQ.pass (by kernel_rfl) (by kernel_rfl) ?_
                          refine TQ.pass (by kernel_rfl) (by kernel_rfl) ?_
                          refine TQ.pass (by kernel_rfl) (by kernel_rfl) ?_
                          refine TQ.pass (by kernel_rfl) (by kernel_rfl) ?_
                          refine TQ.pass (by kernel_rfl) (by kernel_rfl) ?_
                          refine TQ.pass (by kernel_rfl) (by kernel_rfl) ?_
                          refine TQ.pass (by kernel_rfl) (by kernel_rfl) ?_
                          refine TQ.pass (by kernel_rfl) (by kernel_rfl) ?_
                          refine TQ.pass (by kernel_rfl) (by kernel_rfl) ?_
                          refine TQ.pass (by kernel_rfl) (by kernel_rfl) ?_
                          refine TQ.pure (.bool false) (by kernel_rfl) (fun _ => by kernel_rfl) ?_
                          refine TQ.pure (.bool false) (by kernel_rfl) (fun _ => by kernel_rfl) ?_
                          refine TQ.nil ?_
                          cases hX2
                          exact fun a w' hf hh => And.intro ((Fr.nil hf).pick hf 6 rfl) (hh.sub (.cons _ (.cons _ List.Sublist.slnil)))
                        ·
                          skip
                          rw [hg10, cond_true] at hX2
                          refine TQ.pure (.int .i64 r3.1) (by kernel_rfl) (fun _ => by kernel_rfl) ?_
                          refine TQ.pure (.pointer (some ⟨b1, 3, none⟩)) (by kernel_rfl) (fun _ => by kernel_rfl) ?_
                          refine TQ.look (.slice A3 p0.seps.length c3) (by kernel_rfl) (fun w' hh => exec_load1 rfl rfl (by kernel_rfl) (hh.cellBox (i := 1) (by rfl) 3)) ?_
                          refine TQ.pure (.int .i64 (p0.seps.length : Int)) (by kernel_rfl) (fun _ => by kernel_rfl) ?_
                          refine TQ.pure (.bool (r3.1 == (p0.seps.length : Int))) (by kernel_rfl) (fun _ => by kernel_rfl) ?_
                          refine TQ.pure (.bool (r3.1 == (p0.seps.length : Int))) (by kernel_rfl) (fun _ => by kernel_rfl) ?_
                          cases hg11 : (r3.1 == (p0.seps.length : Int))
                          ·
                            skip
                            rw [hg11, cond_false] at hX2
                            refine TQ.look (.agg #[.int .i64 p1.key.pfs, .int .i64 p1.key.obj, .int .i64 p1.key.off, .int .i64 p1.made]) (by kernel_rfl) (fun w' hh => exec_loadN (cs := [.int .i64 p1.key.pfs, .int .i64 p1.key.obj, .int .i64 p1.key.off, .int .i64 p1.made]) rfl rfl (by kernel_rfl) (by kernel_rfl) (fun j u hj => (hh.box_at (i := 0) (cs := [.int .i64 p1.key.pfs, .int .i64 p1.key.obj, .int .i64 p1.key.off, .int .i64 p1.made]) (by rfl) 0 j).trans (seg_at (n := 4) rfl hj))) ?_
                            refine TQ.pure (.pointer (some ⟨b1, 3, none⟩)) (by kernel_rfl) (fun _ => by kernel_rfl) ?_
                            refine TQ.look (.slice A3 p0.seps.length c3) (by kernel_rfl) (fun w' hh => exec_load1 rfl rfl (by kernel_rfl) (hh.cellBox (i := 1) (by rfl) 3)) ?_
                            refine TQ.pure (.int .i64 r3.1) (by kernel_rfl) (fun _ => by kernel_rfl) ?_
                            obtain ⟨e3, hb10, hX2⟩ := Option.bind_eq_some_iff.1 hX2
                            obtain ⟨hi7, hi8, hi9⟩ := idx_some hb10
                            refine TQ.look (.pointer (some ((sadr A3).add (r3.1.toNat * 4)))) (by kernel_rfl) (fun w' hh => exec_indexAddr (e := 46) (s := 4) rfl rfl rfl (by kernel_rfl) (by kernel_rfl) hi7 hi8 ((SlOk.mono hs3 (View.le_trans (View.le_trans (View.le_trans (View.le_trans (View.le_trans hV1 hV2) hV3) hV4) hV5) hV8)).some_ hi9 (by decide))) ?_
                            refine TQ.look (.agg #[.int .i64 e3.key.pfs, .int .i64 e3.key.obj, .int .i64 e3.key.off, .int .i64 e3.made]) (by kernel_rfl) (fun w' hh => exec_loadN (cs := [.int .i64 e3.key.pfs, .int .i64 e3.key.obj, .int .i64 e3.key.off, .int .i64 e3.made]) rfl rfl (by kernel_rfl) (by kernel_rfl) (fun j u hj => (hh.cell_view (SlOk.cellF (E := eSpot) (SlOk.mono hs3 (View.le_trans (View.le_trans (View.le_trans (View.le_trans (View.le_trans hV1 hV2) hV3) hV4) hV5) hV8)) hi9 j (fun _ _ _ h => h) hj)))) ?_
                            obtain ⟨r8, hb11, hX2⟩ := Option.bind_eq_some_iff.1 hX2
                            refine TQ.call (vSc eInt) r8 30 #[.agg #[.int .i64 p1.key.pfs, .int .i64 p1.key.obj, .int .i64 p1.key.off, .int .i64 p1.made], .agg #[.int .i64 e3.key.pfs, .int .i64 e3.key.obj, .int .i64 e3.key.off, .int .i64 e3.made]] (.int .i64 r8) (fun V u hu => sureInt V u _ hu) (by kernel_rfl) (fun _ => by kernel_rfl) (fun w' hh => key_CmpSpot_l p1 e3 r8 hb11 w' ) ?_
                            refine TQ.pure (.bool (decide (r8 < 0))) (by kernel_rfl) (fun _ => by kernel_rfl) ?_
                            refine TQ.pure (.bool (decide (r8 < 0))) (by kernel_rfl) (fun _ => by kernel_rfl) ?_
                            refine TQ.pure (.bool (decide (r8 < 0))) (by kernel_rfl) (fun _ => by kernel_rfl) ?_
                            refine TQ.pure (.bool (decide (r8 < 0))) (by kernel_rfl) (fun _ => by kernel_rfl) ?_
                            refine TQ.nil ?_
                            cases hX2
                            exact fun a w' hf hh => And.intro ((Fr.nil hf).pick hf 6 rfl) (hh.sub (.cons _ (.cons _ List.Sublist.slnil)))
                          ·
                            skip
                            rw [hg11, cond_true] at hX2
                            refine TQ.pass (by kernel_rfl) (by kernel_rfl) ?_
                            refine TQ.pass (by kernel_rfl) (by kernel_rfl) ?_
                            refine TQ.pass (by kernel_rfl) (by kernel_rfl) ?_
                            refine TQ.pass (by kernel_rfl) (by kernel_rfl) ?_
                            refine TQ.pass (by kernel_rfl) (by kernel_rfl) ?_
                            refine TQ.pass (by kernel_rfl) (by kernel_rfl) ?_
                            refine TQ.pass (by kernel_rfl) (by kernel_rfl) ?_
                            refine TQ.pass (by kernel_rfl) (by kernel_rfl) ?_
                            refine TQ.pure (.bool true) (by kernel_rfl) (fun _ => by kernel_rfl) ?_
                            refine TQ.pure (.bool true) (by kernel_rfl) (fun _ => by kernel_rfl) ?_
                            refine TQ.pure (.bool true) (by kernel_rfl) (fun _ => by kernel_rfl) ?_
                            refine TQ.nil ?_
                            cases hX2
                            exact fun a w' hf hh => And.intro ((Fr.nil hf).pick hf 6 rfl) (hh.sub (.cons _ (.cons _ List.Sublist.slnil)))
                      ·
                        skip
                        rw [hg9, cond_true] at hX2
                        refine TQ.pass (by kernel_rfl) (by kernel_rfl) ?_
                        refine TQ.pass (by kernel_rfl) (by kernel_rfl) ?_
                        refine TQ.pass (by kernel_rfl) (by kernel_rfl) ?_
                        refine TQ.pass (by kernel_rfl) (by kernel_rfl) ?_
                        refine TQ.pass (by kernel_rfl) (by kernel_rfl) ?_
                        refine TQ.pass (by kernel_rfl) (by kernel_rfl) ?_
                        refine TQ.pass (by kernel_rfl) (by kernel_rfl) ?_
                        refine TQ.pass (by kernel_rfl) (by kernel_rfl) ?_
                        refine TQ.pass (by kernel_rfl) (by kernel_rfl) ?_
                        refine TQ.pure (.bool true) (by kernel_rfl) (fun _ => by kernel_rfl) ?_
                        refine TQ.pure (.bool true) (by kernel_rfl) (fun _ => by kernel_rfl) ?_
                        refine TQ.pure (.int .i64 r3.1) (by kernel_rfl) (fun _ => by kernel_rfl) ?_
                        refine TQ.pure (.pointer (some ⟨b1, 3, none⟩)) (by kernel_rfl) (fun _ => by kernel_rfl) ?_
                        refine TQ.look (.slice A3 p0.seps.length c3) (by kernel_rfl) (fun w' hh => exec_load1 rfl rfl (by kernel_rfl) (hh.cellBox (i := 1) (by rfl) 3)) ?_
                        refine TQ.pure (.int .i64 (p0.seps.length : Int)) (by kernel_rfl) (fun _ => by kernel_rfl) ?_
                        refine TQ.pure (.bool (r3.1 == (p0.seps.length : Int))) (by kernel_rfl) (fun _ => by kernel_rfl) ?_
                        refine TQ.pure (.bool (r3.1 == (p0.seps.length : Int))) (by kernel_rfl) (fun _ => by kernel_rfl) ?_
                        cases hg12 : (r3.1 == (p0.seps.length : Int))
                        ·
                          skip
                          rw [hg12, cond_false] at hX2
                          refine TQ.look (.agg #[.int .i64 p1.key.pfs, .int .i64 p1.key.obj, .int .i64 p1.key.off, .int .i64 p1.made]) (by kernel_rfl) (fun w' hh => exec_loadN (cs := [.int .i64 p1.key.pfs, .int .i64 p1.key.obj, .int .i64 p1.key.off, .int .i64 p1.made]) rfl rfl (by kernel_rfl) (by kernel_rfl) (fun j u hj => (hh.box_at (i := 0) (cs := [.int .i64 p1.key.pfs, .int .i64 p1.key.obj, .int .i64 p1.key.off, .int .i64 p1.made]) (by rfl) 0 j).trans (seg_at (n := 4) rfl hj))) ?_
                          refine TQ.pure (.pointer (some ⟨b1, 3, none⟩)) (by kernel_rfl) (fun _ => by kernel_rfl) ?_
                          refine TQ.look (.slice A3 p0.seps.length c3) (by kernel_rfl) (fun w' hh => exec_load1 rfl rfl (by kernel_rfl) (hh.cellBox (i := 1) (by rfl) 3)) ?_
                          refine TQ.pure (.int .i64 r3.1) (by kernel_rfl) (fun _ => by kernel_rfl) ?_
                          obtain ⟨e4, hb12, hX2⟩ := Option.bind_eq_some_iff.1 hX2
                          obtain ⟨hi10, hi11, hi12⟩ := idx_some hb12
                          refine TQ.look (.pointer (some ((sadr A3).add (r3.1.toNat * 4)))) (by kernel_rfl) (fun w' hh => exec_indexAddr (e := 46) (s := 4) rfl rfl rfl (by kernel_rfl) (by kernel_rfl) hi10 hi11 ((SlOk.mono hs3 (View.le_trans (View.le_trans (View.le_trans (View.le_trans (View.le_trans hV1 hV2) hV3) hV4) hV5) hV8)).some_ hi12 (by decide))) ?_
                          refine TQ.look (.agg #[.int .i64 e4.key.pfs, .int .i64 e4.key.obj, .int .i64 e4.key.off, .int .i64 e4.made]) (by kernel_rfl) (fun w' hh => exec_loadN (cs := [.int .i64 e4.key.pfs, .int .i64 e4.key.obj, .int .i64 e4.key.off, .int .i64 e4.made]) rfl rfl (by kernel_rfl) (by kernel_rfl) (fun j u hj => (hh.cell_view (SlOk.cellF (E := eSpot) (SlOk.mono hs3 (View.le_trans (View.le_trans (View.le_trans (View.le_trans (View.le_trans hV1 hV2) hV3) hV4) hV5) hV8)) hi12 j (fun _ _ _ h => h) hj)))) ?_
                          obtain ⟨r9, hb13, hX2⟩ := Option.bind_eq_some_iff.1 hX2
                          refine TQ.call (vSc eInt) r9 30 #[.agg #[.int .i64 p1.key.pfs, .int .i64 p1.key.obj, .int .i64 p1.key.off, .int .i64 p1.made], .agg #[.int .i64 e4.key.pfs, .int .i64 e4.key.obj, .int .i64 e4.key.off, .int .i64 e4.made]] (.int .i64 r9) (fun V u hu => sureInt V u _ hu) (by kernel_rfl) (fun _ => by kernel_rfl) (fun w' hh => key_CmpSpot_l p1 e4 r9 hb13 w' ) ?_
                          refine TQ.pure (.bool (decide (r9 < 0))) (by kernel_rfl) (fun _ => by kernel_rfl) ?_
                          refine TQ.pure (.bool (decide (r9 < 0))) (by kernel_rfl) (fun _ => by kernel_rfl) ?_
                          refine TQ.pure (.bool (decide (r9 < 0))) (by kernel_rfl) (fun _ => by kernel_rfl) ?_
                          refine TQ.pure (.bool (decide (r9 < 0))) (by kernel_rfl) (fun _ => by kernel_rfl) ?_
                          refine TQ.nil ?_
                          cases hX2
                          exact fun a w' hf hh => And.intro ((Fr.nil hf).pick hf 6 rfl) (hh.sub (.cons _ (.cons _ List.Sublist.slnil)))
                        ·
                          skip
                          rw [hg12, cond_true] at hX2
                          refine TQ.pass (by kernel_rfl) (by kernel_rfl) ?_
                          refine TQ.pass (by kernel_rfl) (by kernel_rfl) ?_
                          refine TQ.pass (by kernel_rfl) (by kernel_rfl) ?_
                          refine TQ.pass (by kernel_rfl) (by kernel_rfl) ?_
                          refine TQ.pass (by kernel_rfl) (by kernel_rfl) ?_
                          refine TQ.pass (by kernel_rfl) (by kernel_rfl) ?_
                          refine TQ.pass (by kernel_rfl) (by kernel_rfl) ?_
                          refine TQ.pass (by kernel_rfl) (by kernel_rfl) ?_
                          refine TQ.pure (.bool true) (by kernel_rfl) (fun _ => by kernel_rfl) ?_
                          refine TQ.pure (.bool true) (by kernel_rfl) (fun _ => by kernel_rfl) ?_
                          refine TQ.pure (.bool true) (by kernel_rfl) (fun _ => by kernel_rfl) ?_
                          refine TQ.nil ?_
                          cases hX2
                          exact fun a w' hf hh => And.intro ((Fr.nil hf).pick hf 6 rfl) (hh.sub (.cons _ (.cons _ List.Sublist.slnil)))
                    ·
                      rintro a w' ⟨hf, hh⟩
                      refine (?_ : T 148 w V8 [] [(6, .bool z2)] _) a w' hf hh
                      clear hf hh
                      cases hF
                      refine T.ret rfl ?_
                      exact T.ret1 rfl (ResIs.tmp rfl) fun w' hh => ⟨_, rfl, hh.below, (show _ from rfl)⟩

end Go.Proofs.Ytldlakjemifdmaa
