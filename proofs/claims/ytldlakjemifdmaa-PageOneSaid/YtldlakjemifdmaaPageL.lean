/- The Go functions of group Page compute the pure functions of that group: written by walkgen.py. Condition of each: the pure function yields a result. -/
import Derived.Test.YtldlakjemifdmaaNodeL
import Derived.Test.YtldlakjemifdmaaCodeL
import Derived.Test.YtldlakjemifdmaaPageF
import Derived.Test.YtldlakjemifdmaaEqL
namespace Go.Proofs.Ytldlakjemifdmaa
set_option linter.unusedVariables false

set_option maxRecDepth 100000 in
set_option maxHeartbeats 4000000 in
theorem page_Write_l (F : Nat) (p0 : DNode) (r : ByteArray × Int) (hF : page_Write F p0 = some r) (w : World) (A1 : Option Addr) (c1 : Nat) (hs1 : SlOk (vw w) eElem A1 c1 p0.elems) (A2 : Option Addr) (c2 : Nat) (hs2 : SlOk (vw w) eInt A2 c2 p0.kids) (A3 : Option Addr) (c3 : Nat) (hs3 : SlOk (vw w) eSpot A3 c3 p0.seps) (A4 : Option Addr) (c4 : Nat) (hs4 : SlOk (vw w) eInt A4 c4 p0.tids) :
    Calls Try.prog 34 #[.agg #[.int .i64 p0.kind, .slice A1 p0.elems.length c1, .slice A2 p0.kids.length c2, .slice A3 p0.seps.length c3, .slice A4 p0.tids.length c4]] w (Post (vT2 (vSc eStr) (vSc eInt)) r w) := by
  unfold page_Write at hF
  refine T.start (l := [.agg #[.int .i64 p0.kind, .slice A1 p0.elems.length c1, .slice A2 p0.kids.length c2, .slice A3 p0.seps.length c3, .slice A4 p0.tids.length c4]]) Try.func34 rfl rfl rfl ?_
  refine T.seq ?_
  refine T.region ?_
  refine T.step (W1.new 26 [.int .i64 p0.kind, .slice A1 p0.elems.length c1, .slice A2 p0.kids.length c2, .slice A3 p0.seps.length c3, .slice A4 p0.tids.length c4] (fun b => .pointer (some ⟨b, 0, none⟩)) (by kernel_rfl) (fun _ => by kernel_rfl) (fun b1 => ?_))
  refine T.pure (.string (ByteArray.mk #[])) (by kernel_rfl) (fun _ => by kernel_rfl) ?_
  refine T.pure (.int .i64 0) (by kernel_rfl) (fun _ => by kernel_rfl) ?_
  refine T.nil ?_
  refine T.seq ?_
  refine T.seq ?_
  refine T.region ?_
  refine T.look (.agg #[.int .i64 p0.kind, .slice A1 p0.elems.length c1, .slice A2 p0.kids.length c2, .slice A3 p0.seps.length c3, .slice A4 p0.tids.length c4]) (by kernel_rfl) (fun w' hh => exec_loadN (cs := [.int .i64 p0.kind, .slice A1 p0.elems.length c1, .slice A2 p0.kids.length c2, .slice A3 p0.seps.length c3, .slice A4 p0.tids.length c4]) rfl rfl (by kernel_rfl) (by kernel_rfl) (fun j u hj => (hh.box_at (i := 0) (cs := [.int .i64 p0.kind, .slice A1 p0.elems.length c1, .slice A2 p0.kids.length c2, .slice A3 p0.seps.length c3, .slice A4 p0.tids.length c4]) (by rfl) 0 j).trans (seg_at (n := 5) rfl hj))) ?_
  obtain ⟨r1, hb1, hF⟩ := Option.bind_eq_some_iff.1 hF
  refine T.step (W1.call (vSc eInt) r1 23 #[.agg #[.int .i64 p0.kind, .slice A1 p0.elems.length c1, .slice A2 p0.kids.length c2, .slice A3 p0.seps.length c3, .slice A4 p0.tids.length c4]] (by kernel_rfl) (fun _ => by kernel_rfl) (fun w' hh => node_Check_l F p0 r1 hb1 w' A1 c1 (SlOk.mono hs1 hh.view) A2 c2 (SlOk.mono hs2 hh.view) A3 c3 (SlOk.mono hs3 hh.view) A4 c4 (SlOk.mono hs4 hh.view)) ?_)
  intro u V1 hV1 hu
  obtain rfl := sureInt _ _ _ hu
  refine T.pure (.int .i64 r1) (by kernel_rfl) (fun _ => by kernel_rfl) ?_
  refine T.nil ?_
  refine T.seq ?_
  refine T.region ?_
  refine T.pure (.int .i64 r1) (by kernel_rfl) (fun _ => by kernel_rfl) ?_
  refine T.pure (.bool (r1 != 0)) (by kernel_rfl) (fun _ => by kernel_rfl) ?_
  refine T.nil ?_
  refine T.cond (r1 != 0) (by kernel_rfl) (by kernel_rfl) (fun hc1 => ?_) (fun hc1 => ?_)
  ·
    rw [hc1, cond_true] at hF
    refine T.seq ?_
    refine T.region ?_
    refine T.pure (.int .i64 r1) (by kernel_rfl) (fun _ => by kernel_rfl) ?_
    refine T.pure (.string (ByteArray.mk #[])) (by kernel_rfl) (fun _ => by kernel_rfl) ?_
    refine T.pure (.int .i64 r1) (by kernel_rfl) (fun _ => by kernel_rfl) ?_
    refine T.nil ?_
    cases hF
    refine T.ret rfl ?_
    exact T.ret2 rfl (ResIs.tmp rfl) (ResIs.tmp rfl) fun w' hh => ⟨_, rfl, hh.below, (vT2.mk (show _ from rfl) (show _ from rfl))⟩
  ·
    rw [hc1, cond_false] at hF
    refine T.skip_code ?_
    refine T.seq ?_
    refine T.region ?_
    refine T.pure (.string (ByteArray.mk #[])) (by kernel_rfl) (fun _ => by kernel_rfl) ?_
    refine T.nil ?_
    refine T.seq ?_
    refine T.seq ?_
    refine T.region ?_
    refine T.pure (.pointer (some ⟨b1, 1, none⟩)) (by kernel_rfl) (fun _ => by kernel_rfl) ?_
    refine T.look (.slice A1 p0.elems.length c1) (by kernel_rfl) (fun w' hh => exec_load1 rfl rfl (by kernel_rfl) (hh.cellBox (i := 0) (by rfl) 1)) ?_
    refine T.pure (.int .i64 (p0.elems.length : Int)) (by kernel_rfl) (fun _ => by kernel_rfl) ?_
    refine T.pure (.int .i64 0) (by kernel_rfl) (fun _ => by kernel_rfl) ?_
    refine T.nil ?_
    obtain ⟨z1, hz1, hF⟩ := Option.bind_eq_some_iff.1 hF
    refine T.mid (fun a w' => ∃ (V3 : View), View.le V1 V3 ∧ Fr 87 [(1, .pointer (some ⟨b1, 0, none⟩)), (5, .string z1)] a ∧ Hp w V3 [box b1 26 [.int .i64 p0.kind, .slice A1 p0.elems.length c1, .slice A2 p0.kids.length c2, .slice A3 p0.seps.length c3, .slice A4 p0.tids.length c4]] w') ?_ ?_
    ·
      refine T.block ?_
      refine T.iter (fun s1 a w' => ∃ (x1 : ByteArray) (x2 : Int), s1 = (x1, x2) ∧ ∃ (V2 : View), View.le V1 V2 ∧ Fr 87 [(1, .pointer (some ⟨b1, 0, none⟩)), (5, .string x1), (20, .slice A1 p0.elems.length c1), (21, .int .i64 (p0.elems.length : Int)), (22, .int .i64 x2)] a ∧ Hp w V2 [box b1 26 [.int .i64 p0.kind, .slice A1 p0.elems.length c1, .slice A2 p0.kids.length c2, .slice A3 p0.seps.length c3, .slice A4 p0.tids.length c4]] w') hz1 ?_ ?_
      ·
        exact fun a w' hf hh => Exists.intro (ByteArray.mk #[]) (Exists.intro 0 (And.intro rfl (Exists.intro V1 (And.intro (View.le_refl _) (And.intro ((((((Fr.nil hf).pick hf 22 rfl).pick hf 21 rfl).pick hf 20 rfl).pick hf 5 rfl).pick hf 1 rfl) (hh.sub (.cons_cons _ List.Sublist.slnil)))))))
      ·
        rintro s1 y1 hY1 hr1 a w' ⟨x1, x2, rfl, V2, hV2, hf, hh⟩
        refine (?_ : T 87 w V2 [box b1 26 [.int .i64 p0.kind, .slice A1 p0.elems.length c1, .slice A2 p0.kids.length c2, .slice A3 p0.seps.length c3, .slice A4 p0.tids.length c4]] [(1, .pointer (some ⟨b1, 0, none⟩)), (5, .string x1), (20, .slice A1 p0.elems.length c1), (21, .int .i64 (p0.elems.length : Int)), (22, .int .i64 x2)] _) a w' hf hh
        clear hf hh
        try dsimp only at hY1
        refine T.seq ?_
        refine T.region ?_
        refine T.pure (.bool (decide (x2 < (p0.elems.length : Int)))) (by kernel_rfl) (fun _ => by kernel_rfl) ?_
        refine T.nil ?_
        refine T.seq ?_
        refine T.cond (decide (x2 < (p0.elems.length : Int))) (by kernel_rfl) (by kernel_rfl) (fun hc2 => ?_) (fun hc2 => ?_)
        ·
          rw [hc2, cond_true] at hY1
          refine T.skip_code ?_
          refine T.seq ?_
          refine T.block ?_
          refine T.seq ?_
          refine T.region ?_
          obtain ⟨e1, hb2, hY1⟩ := Option.bind_eq_some_iff.1 hY1
          obtain ⟨hi1, hi2, hi3⟩ := idx_some hb2
          refine T.look (.pointer (some ((sadr A1).add (x2.toNat * 6)))) (by kernel_rfl) (fun w' hh => exec_indexAddr (e := 34) (s := 6) rfl rfl rfl (by kernel_rfl) (by kernel_rfl) hi1 hi2 ((SlOk.mono hs1 (View.le_trans hV1 hV2)).some_ hi3 (by decide))) ?_
          refine T.look (.agg #[.int .i64 e1.key.pfs, .int .i64 e1.key.obj, .int .i64 e1.key.off, .int .i64 e1.made, .int .i64 e1.gone, .string e1.val]) (by kernel_rfl) (fun w' hh => exec_loadN (cs := [.int .i64 e1.key.pfs, .int .i64 e1.key.obj, .int .i64 e1.key.off, .int .i64 e1.made, .int .i64 e1.gone, .string e1.val]) rfl rfl (by kernel_rfl) (by kernel_rfl) (fun j u hj => (hh.cell_view (SlOk.cellF (E := eElem) (SlOk.mono hs1 (View.le_trans hV1 hV2)) hi3 j (fun _ _ _ h => h) hj)))) ?_
          refine T.step (W1.new 34 [.int .i64 0, .int .i64 0, .int .i64 0, .int .i64 0, .int .i64 0, .string (ByteArray.mk #[])] (fun b => .pointer (some ⟨b, 0, none⟩)) (by kernel_rfl) (fun _ => by kernel_rfl) (fun b2 => ?_))
          refine T.step (W1.store 0 [.int .i64 e1.key.pfs, .int .i64 e1.key.obj, .int .i64 e1.key.off, .int .i64 e1.made, .int .i64 e1.gone, .string e1.val] [box b2 34 [.int .i64 e1.key.pfs, .int .i64 e1.key.obj, .int .i64 e1.key.off, .int .i64 e1.made, .int .i64 e1.gone, .string e1.val], box b1 26 [.int .i64 p0.kind, .slice A1 p0.elems.length c1, .slice A2 p0.kids.length c2, .slice A3 p0.seps.length c3, .slice A4 p0.tids.length c4]] (by rfl) rfl (by kernel_rfl) (fun w' hw => exec_store (vs := [.int .i64 e1.key.pfs, .int .i64 e1.key.obj, .int .i64 e1.key.off, .int .i64 e1.made, .int .i64 e1.gone, .string e1.val]) rfl rfl rfl rfl (by kernel_rfl) (one_of rfl) (by simp) rfl hw) ?_)
          refine T.nil ?_
          refine T.seq ?_
          refine T.region ?_
          refine T.look (.agg #[.int .i64 e1.key.pfs, .int .i64 e1.key.obj, .int .i64 e1.key.off, .int .i64 e1.made, .int .i64 e1.gone, .string e1.val]) (by kernel_rfl) (fun w' hh => exec_loadN (cs := [.int .i64 e1.key.pfs, .int .i64 e1.key.obj, .int .i64 e1.key.off, .int .i64 e1.made, .int .i64 e1.gone, .string e1.val]) rfl rfl (by kernel_rfl) (by kernel_rfl) (fun j u hj => (hh.box_at (i := 0) (cs := [.int .i64 e1.key.pfs, .int .i64 e1.key.obj, .int .i64 e1.key.off, .int .i64 e1.made, .int .i64 e1.gone, .string e1.val]) (by rfl) 0 j).trans (seg_at (n := 6) rfl hj))) ?_
          obtain ⟨r2, hb3, hY1⟩ := Option.bind_eq_some_iff.1 hY1
          refine T.step (W1.call (vT2 (vSc eStr) (vSc eInt)) r2 78 #[.agg #[.int .i64 e1.key.pfs, .int .i64 e1.key.obj, .int .i64 e1.key.off, .int .i64 e1.made, .int .i64 e1.gone, .string e1.val]] (by kernel_rfl) (fun _ => by kernel_rfl) (fun w' hh => code_Write_l F e1 r2 hb3 w' ) ?_)
          intro u V4 hV4 hu
          obtain rfl := (Sure.t2 sureStr sureInt) _ _ _ hu
          refine T.pure (.tuple #[.string r2.1, .int .i64 r2.2]) (by kernel_rfl) (fun _ => by kernel_rfl) ?_
          refine T.pure (.string r2.1) (by kernel_rfl) (fun _ => by kernel_rfl) ?_
          refine T.pure (.int .i64 r2.2) (by kernel_rfl) (fun _ => by kernel_rfl) ?_
          refine T.pure (.string r2.1) (by kernel_rfl) (fun _ => by kernel_rfl) ?_
          refine T.pure (.int .i64 r2.2) (by kernel_rfl) (fun _ => by kernel_rfl) ?_
          refine T.nil ?_
          refine T.region ?_
          refine T.pure (.string x1) (by kernel_rfl) (fun _ => by kernel_rfl) ?_
          refine T.pure (.string r2.1) (by kernel_rfl) (fun _ => by kernel_rfl) ?_
          obtain ⟨s2, hb4, hY1⟩ := Option.bind_eq_some_iff.1 hY1
          refine T.look (.string s2) (by kernel_rfl) (fun w' hh => exec_scat rfl rfl rfl hb4) ?_
          refine T.pure (.string s2) (by kernel_rfl) (fun _ => by kernel_rfl) ?_
          refine T.nil ?_
          refine T.region ?_
          refine T.pure (.int .i64 (IntKind.i64.wrap (x2 + 1))) (by kernel_rfl) (fun _ => by kernel_rfl) ?_
          refine T.pure (.int .i64 (IntKind.i64.wrap (x2 + 1))) (by kernel_rfl) (fun _ => by kernel_rfl) ?_
          refine T.nil ?_
          cases hY1
          exact fun a w' hf hh => Exists.intro (s2, IntKind.i64.wrap (x2 + 1)) (And.intro rfl (Exists.intro s2 (Exists.intro (IntKind.i64.wrap (x2 + 1)) (And.intro rfl (Exists.intro V4 (And.intro (View.le_trans hV2 hV4) (And.intro ((((((Fr.nil hf).pick hf 22 rfl).pick hf 21 rfl).pick hf 20 rfl).pick hf 5 rfl).pick hf 1 rfl) (hh.sub (.cons _ (.cons_cons _ List.Sublist.slnil))))))))))
        ·
          rw [hc2, cond_false] at hY1
          refine T.exit ?_
          cases hY1
          cases (hr1 _ rfl)
          exact fun a w' hf hh => Exists.intro V2 (And.intro hV2 (And.intro (((Fr.nil hf).pick hf 5 rfl).pick hf 1 rfl) (hh.sub (.cons_cons _ List.Sublist.slnil))))
    ·
      rintro a w' ⟨V3, hV3, hf, hh⟩
      refine (?_ : T 87 w V3 [box b1 26 [.int .i64 p0.kind, .slice A1 p0.elems.length c1, .slice A2 p0.kids.length c2, .slice A3 p0.seps.length c3, .slice A4 p0.tids.length c4]] [(1, .pointer (some ⟨b1, 0, none⟩)), (5, .string z1)] _) a w' hf hh
      clear hf hh
      refine T.seq ?_
      refine T.seq ?_
      refine T.region ?_
      refine T.pure (.pointer (some ⟨b1, 2, none⟩)) (by kernel_rfl) (fun _ => by kernel_rfl) ?_
      refine T.look (.slice A2 p0.kids.length c2) (by kernel_rfl) (fun w' hh => exec_load1 rfl rfl (by kernel_rfl) (hh.cellBox (i := 0) (by rfl) 2)) ?_
      refine T.pure (.int .i64 (p0.kids.length : Int)) (by kernel_rfl) (fun _ => by kernel_rfl) ?_
      refine T.pure (.int .i64 0) (by kernel_rfl) (fun _ => by kernel_rfl) ?_
      refine T.nil ?_
      obtain ⟨z2, hz2, hF⟩ := Option.bind_eq_some_iff.1 hF
      refine T.mid (fun a w' => Fr 87 [(1, .pointer (some ⟨b1, 0, none⟩)), (5, .string z2)] a ∧ Hp w V3 [box b1 26 [.int .i64 p0.kind, .slice A1 p0.elems.length c1, .slice A2 p0.kids.length c2, .slice A3 p0.seps.length c3, .slice A4 p0.tids.length c4]] w') ?_ ?_
      ·
        refine T.block ?_
        refine T.iter (fun s3 a w' => ∃ (x3 : ByteArray) (x4 : Int), s3 = (x3, x4) ∧ Fr 87 [(1, .pointer (some ⟨b1, 0, none⟩)), (5, .string x3), (36, .slice A2 p0.kids.length c2), (37, .int .i64 (p0.kids.length : Int)), (38, .int .i64 x4)] a ∧ Hp w V3 [box b1 26 [.int .i64 p0.kind, .slice A1 p0.elems.length c1, .slice A2 p0.kids.length c2, .slice A3 p0.seps.length c3, .slice A4 p0.tids.length c4]] w') hz2 ?_ ?_
        ·
          exact fun a w' hf hh => Exists.intro z1 (Exists.intro 0 (And.intro rfl (And.intro ((((((Fr.nil hf).pick hf 38 rfl).pick hf 37 rfl).pick hf 36 rfl).pick hf 5 rfl).pick hf 1 rfl) (hh.sub (.cons_cons _ List.Sublist.slnil)))))
        ·
          rintro s3 y2 hY2 hr2 a w' ⟨x3, x4, rfl, hf, hh⟩
          refine (?_ : T 87 w V3 [box b1 26 [.int .i64 p0.kind, .slice A1 p0.elems.length c1, .slice A2 p0.kids.length c2, .slice A3 p0.seps.length c3, .slice A4 p0.tids.length c4]] [(1, .pointer (some ⟨b1, 0, none⟩)), (5, .string x3), (36, .slice A2 p0.kids.length c2), (37, .int .i64 (p0.kids.length : Int)), (38, .int .i64 x4)] _) a w' hf hh
          clear hf hh
          try dsimp only at hY2
          refine T.seq ?_
          refine T.region ?_
          refine T.pure (.bool (decide (x4 < (p0.kids.length : Int)))) (by kernel_rfl) (fun _ => by kernel_rfl) ?_
          refine T.nil ?_
          refine T.seq ?_
          refine T.cond (decide (x4 < (p0.kids.length : Int))) (by kernel_rfl) (by kernel_rfl) (fun hc3 => ?_) (fun hc3 => ?_)
          ·
            rw [hc3, cond_true] at hY2
            refine T.skip_code ?_
            obtain ⟨z3, hX1, hY2⟩ := Option.bind_eq_some_iff.1 hY2
            refine T.cut (fun a w' => Fr 87 [(1, .pointer (some ⟨b1, 0, none⟩)), (5, .string z3), (36, .slice A2 p0.kids.length c2), (37, .int .i64 (p0.kids.length : Int)), (38, .int .i64 x4)] a ∧ Hp w V3 [box b1 26 [.int .i64 p0.kind, .slice A1 p0.elems.length c1, .slice A2 p0.kids.length c2, .slice A3 p0.seps.length c3, .slice A4 p0.tids.length c4]] w') ?_ ?_
            ·
              refine T.block ?_
              refine T.seq ?_
              refine T.region ?_
              refine T.pure (.int .i64 x4) (by kernel_rfl) (fun _ => by kernel_rfl) ?_
              obtain ⟨e2, hb5, hX1⟩ := Option.bind_eq_some_iff.1 hX1
              obtain ⟨hi4, hi5, hi6⟩ := idx_some hb5
              refine T.look (.pointer (some ((sadr A2).add (x4.toNat * 1)))) (by kernel_rfl) (fun w' hh => exec_indexAddr (e := 3) (s := 1) rfl rfl rfl (by kernel_rfl) (by kernel_rfl) hi4 hi5 ((SlOk.mono hs2 (View.le_trans hV1 hV3)).some_ hi6 (by decide))) ?_
              refine T.look (.int .i64 e2) (by kernel_rfl) (fun w' hh => exec_load1 rfl rfl (by kernel_rfl) (hh.cell_view (SlOk.cellF0 (E := eInt) (SlOk.mono hs2 (View.le_trans hV1 hV3)) hi6 (fun _ _ _ h => h) rfl))) ?_
              refine T.pure (.int .i64 x4) (by kernel_rfl) (fun _ => by kernel_rfl) ?_
              refine T.pure (.int .i64 e2) (by kernel_rfl) (fun _ => by kernel_rfl) ?_
              refine T.nil ?_
              refine T.seq ?_
              refine T.quiet (by kernel_rfl) (by kernel_rfl) ?_
              refine TQ.pure (.string x3) (by kernel_rfl) (fun _ => by kernel_rfl) ?_
              refine TQ.pure (.int .i64 e2) (by kernel_rfl) (fun _ => by kernel_rfl) ?_
              obtain ⟨r3, hb6, hX1⟩ := Option.bind_eq_some_iff.1 hX1
              refine TQ.call (vSc eStr) r3 79 #[.int .i64 e2, .int .i64 2] (.string r3) (fun V u hu => sureStr V u _ hu) (by kernel_rfl) (fun _ => by kernel_rfl) (fun w' hh => big_Put_l F e2 2 r3 hb6 w' ) ?_
              refine TQ.pure (.pointer (some ⟨b1, 4, none⟩)) (by kernel_rfl) (fun _ => by kernel_rfl) ?_
              refine TQ.look (.slice A4 p0.tids.length c4) (by kernel_rfl) (fun w' hh => exec_load1 rfl rfl (by kernel_rfl) (hh.cellBox (i := 0) (by rfl) 4)) ?_
              refine TQ.pure (.int .i64 x4) (by kernel_rfl) (fun _ => by kernel_rfl) ?_
              obtain ⟨e3, hb7, hX1⟩ := Option.bind_eq_some_iff.1 hX1
              obtain ⟨hi7, hi8, hi9⟩ := idx_some hb7
              refine TQ.look (.pointer (some ((sadr A4).add (x4.toNat * 1)))) (by kernel_rfl) (fun w' hh => exec_indexAddr (e := 3) (s := 1) rfl rfl rfl (by kernel_rfl) (by kernel_rfl) hi7 hi8 ((SlOk.mono hs4 (View.le_trans hV1 hV3)).some_ hi9 (by decide))) ?_
              refine TQ.look (.int .i64 e3) (by kernel_rfl) (fun w' hh => exec_load1 rfl rfl (by kernel_rfl) (hh.cell_view (SlOk.cellF0 (E := eInt) (SlOk.mono hs4 (View.le_trans hV1 hV3)) hi9 (fun _ _ _ h => h) rfl))) ?_
              obtain ⟨r4, hb8, hX1⟩ := Option.bind_eq_some_iff.1 hX1
              refine TQ.call (vSc eStr) r4 79 #[.int .i64 e3, .int .i64 4] (.string r4) (fun V u hu => sureStr V u _ hu) (by kernel_rfl) (fun _ => by kernel_rfl) (fun w' hh => big_Put_l F e3 4 r4 hb8 w' ) ?_
              obtain ⟨s4, hb9, hX1⟩ := Option.bind_eq_some_iff.1 hX1
              refine TQ.look (.string s4) (by kernel_rfl) (fun w' hh => exec_scat rfl rfl rfl hb9) ?_
              obtain ⟨s5, hb10, hX1⟩ := Option.bind_eq_some_iff.1 hX1
              refine TQ.look (.string s5) (by kernel_rfl) (fun w' hh => exec_scat rfl rfl rfl hb10) ?_
              refine TQ.pure (.string s5) (by kernel_rfl) (fun _ => by kernel_rfl) ?_
              refine TQ.nil ?_
              refine T.seq ?_
              refine T.region ?_
              refine T.pure (.int .i64 x4) (by kernel_rfl) (fun _ => by kernel_rfl) ?_
              refine T.pure (.bool (decide ((0 : Int) < x4))) (by kernel_rfl) (fun _ => by kernel_rfl) ?_
              refine T.nil ?_
              refine T.cond (decide ((0 : Int) < x4)) (by kernel_rfl) (by kernel_rfl) (fun hc4 => ?_) (fun hc4 => ?_)
              ·
                rw [hc4, cond_true] at hX1
                refine T.seq ?_
                refine T.quiet (by kernel_rfl) (by kernel_rfl) ?_
                refine TQ.pure (.pointer (some ⟨b1, 3, none⟩)) (by kernel_rfl) (fun _ => by kernel_rfl) ?_
                refine TQ.look (.slice A3 p0.seps.length c3) (by kernel_rfl) (fun w' hh => exec_load1 rfl rfl (by kernel_rfl) (hh.cellBox (i := 0) (by rfl) 3)) ?_
                refine TQ.pure (.int .i64 x4) (by kernel_rfl) (fun _ => by kernel_rfl) ?_
                refine TQ.pure (.int .i64 (IntKind.i64.wrap (x4 - 1))) (by kernel_rfl) (fun _ => by kernel_rfl) ?_
                obtain ⟨e4, hb11, hX1⟩ := Option.bind_eq_some_iff.1 hX1
                obtain ⟨hi10, hi11, hi12⟩ := idx_some hb11
                refine TQ.look (.pointer (some ((sadr A3).add (((IntKind.i64.wrap (x4 - 1)).toNat) * 4)))) (by kernel_rfl) (fun w' hh => exec_indexAddr (e := 46) (s := 4) rfl rfl rfl (by kernel_rfl) (by kernel_rfl) hi10 hi11 ((SlOk.mono hs3 (View.le_trans hV1 hV3)).some_ hi12 (by decide))) ?_
                refine TQ.pure (.pointer (some ((sadr A3).add (((IntKind.i64.wrap (x4 - 1)).toNat) * 4)))) (by kernel_rfl) (fun _ => by kernel_rfl) ?_
                refine TQ.look (.agg #[.int .i64 e4.key.pfs, .int .i64 e4.key.obj, .int .i64 e4.key.off]) (by kernel_rfl) (fun w' hh => exec_loadN (cs := [.int .i64 e4.key.pfs, .int .i64 e4.key.obj, .int .i64 e4.key.off]) rfl rfl (by kernel_rfl) (by kernel_rfl) (fun j u hj => (hh.cell_view (SlOk.cellF (E := eSpot) (SlOk.mono hs3 (View.le_trans hV1 hV3)) hi12 j (fun _ _ _ h => h) (take_at (n := 3) rfl hj))))) ?_
                refine TQ.pure (.pointer (some ⟨b1, 3, none⟩)) (by kernel_rfl) (fun _ => by kernel_rfl) ?_
                refine TQ.look (.slice A3 p0.seps.length c3) (by kernel_rfl) (fun w' hh => exec_load1 rfl rfl (by kernel_rfl) (hh.cellBox (i := 0) (by rfl) 3)) ?_
                refine TQ.pure (.int .i64 x4) (by kernel_rfl) (fun _ => by kernel_rfl) ?_
                refine TQ.pure (.int .i64 (IntKind.i64.wrap (x4 - 1))) (by kernel_rfl) (fun _ => by kernel_rfl) ?_
                obtain ⟨e5, hb12, hX1⟩ := Option.bind_eq_some_iff.1 hX1
                obtain ⟨hi13, hi14, hi15⟩ := idx_some hb12
                refine TQ.look (.pointer (some ((sadr A3).add (((IntKind.i64.wrap (x4 - 1)).toNat) * 4)))) (by kernel_rfl) (fun w' hh => exec_indexAddr (e := 46) (s := 4) rfl rfl rfl (by kernel_rfl) (by kernel_rfl) hi13 hi14 ((SlOk.mono hs3 (View.le_trans hV1 hV3)).some_ hi15 (by decide))) ?_
                refine TQ.pure (.pointer (some (((sadr A3).add (((IntKind.i64.wrap (x4 - 1)).toNat) * 4)).add 3))) (by kernel_rfl) (fun _ => by kernel_rfl) ?_
                refine TQ.look (.int .i64 e5.made) (by kernel_rfl) (fun w' hh => exec_load1 rfl rfl (by kernel_rfl) (hh.cell_view (SlOk.cellF (E := eSpot) (SlOk.mono hs3 (View.le_trans hV1 hV3)) hi15 3 (fun _ _ _ h => h) rfl))) ?_
                refine TQ.pure (.agg #[.int .i64 e4.key.pfs, .int .i64 e4.key.obj, .int .i64 e4.key.off, .int .i64 e5.made, .int .i64 0, .string (ByteArray.mk #[])]) (by kernel_rfl) (fun _ => by kernel_rfl) ?_
                obtain ⟨r5, hb13, hX1⟩ := Option.bind_eq_some_iff.1 hX1
                refine TQ.call (vT2 (vSc eStr) (vSc eInt)) r5 78 #[.agg #[.int .i64 e4.key.pfs, .int .i64 e4.key.obj, .int .i64 e4.key.off, .int .i64 e5.made, .int .i64 0, .string (ByteArray.mk #[])]] (.tuple #[.string r5.1, .int .i64 r5.2]) (fun V u hu => (Sure.t2 sureStr sureInt) V u _ hu) (by kernel_rfl) (fun _ => by kernel_rfl) (fun w' hh => code_Write_l F (DElem.mk e4.key e5.made 0 (ByteArray.mk #[])) r5 hb13 w' ) ?_
                refine TQ.pure (.tuple #[.string r5.1, .int .i64 r5.2]) (by kernel_rfl) (fun _ => by kernel_rfl) ?_
                refine TQ.pure (.string r5.1) (by kernel_rfl) (fun _ => by kernel_rfl) ?_
                refine TQ.pure (.int .i64 r5.2) (by kernel_rfl) (fun _ => by kernel_rfl) ?_
                refine TQ.pure (.string r5.1) (by kernel_rfl) (fun _ => by kernel_rfl) ?_
                refine TQ.pure (.int .i64 r5.2) (by kernel_rfl) (fun _ => by kernel_rfl) ?_
                refine TQ.nil ?_
                refine T.region ?_
                refine T.pure (.string s5) (by kernel_rfl) (fun _ => by kernel_rfl) ?_
                refine T.pure (.string r5.1) (by kernel_rfl) (fun _ => by kernel_rfl) ?_
                obtain ⟨s6, hb14, hX1⟩ := Option.bind_eq_some_iff.1 hX1
                refine T.look (.string s6) (by kernel_rfl) (fun w' hh => exec_scat rfl rfl rfl hb14) ?_
                refine T.pure (.string s6) (by kernel_rfl) (fun _ => by kernel_rfl) ?_
                refine T.nil ?_
                cases hX1
                exact fun a w' hf hh => And.intro ((((((Fr.nil hf).pick hf 38 rfl).pick hf 37 rfl).pick hf 36 rfl).pick hf 5 rfl).pick hf 1 rfl) (hh.sub (.cons_cons _ List.Sublist.slnil))
              ·
                rw [hc4, cond_false] at hX1
                refine T.skip_code ?_
                cases hX1
                exact fun a w' hf hh => And.intro ((((((Fr.nil hf).pick hf 38 rfl).pick hf 37 rfl).pick hf 36 rfl).pick hf 5 rfl).pick hf 1 rfl) (hh.sub (.cons_cons _ List.Sublist.slnil))
            ·
              rintro a w' ⟨hf, hh⟩
              refine (?_ : T 87 w V3 [box b1 26 [.int .i64 p0.kind, .slice A1 p0.elems.length c1, .slice A2 p0.kids.length c2, .slice A3 p0.seps.length c3, .slice A4 p0.tids.length c4]] [(1, .pointer (some ⟨b1, 0, none⟩)), (5, .string z3), (36, .slice A2 p0.kids.length c2), (37, .int .i64 (p0.kids.length : Int)), (38, .int .i64 x4)] _) a w' hf hh
              clear hf hh
              refine T.region ?_
              refine T.pure (.int .i64 (IntKind.i64.wrap (x4 + 1))) (by kernel_rfl) (fun _ => by kernel_rfl) ?_
              refine T.pure (.int .i64 (IntKind.i64.wrap (x4 + 1))) (by kernel_rfl) (fun _ => by kernel_rfl) ?_
              refine T.nil ?_
              cases hY2
              exact fun a w' hf hh => Exists.intro (z3, IntKind.i64.wrap (x4 + 1)) (And.intro rfl (Exists.intro z3 (Exists.intro (IntKind.i64.wrap (x4 + 1)) (And.intro rfl (And.intro ((((((Fr.nil hf).pick hf 38 rfl).pick hf 37 rfl).pick hf 36 rfl).pick hf 5 rfl).pick hf 1 rfl) (hh.sub (.cons_cons _ List.Sublist.slnil)))))))
          ·
            rw [hc3, cond_false] at hY2
            refine T.exit ?_
            cases hY2
            cases (hr2 _ rfl)
            exact fun a w' hf hh => And.intro (((Fr.nil hf).pick hf 5 rfl).pick hf 1 rfl) (hh.sub (.cons_cons _ List.Sublist.slnil))
      ·
        rintro a w' ⟨hf, hh⟩
        refine (?_ : T 87 w V3 [box b1 26 [.int .i64 p0.kind, .slice A1 p0.elems.length c1, .slice A2 p0.kids.length c2, .slice A3 p0.seps.length c3, .slice A4 p0.tids.length c4]] [(1, .pointer (some ⟨b1, 0, none⟩)), (5, .string z2)] _) a w' hf hh
        clear hf hh
        refine T.seq ?_
        refine T.region ?_
        refine T.pure (.pointer (some ⟨b1, 0, none⟩)) (by kernel_rfl) (fun _ => by kernel_rfl) ?_
        refine T.look (.int .i64 p0.kind) (by kernel_rfl) (fun w' hh => exec_load1 rfl rfl (by kernel_rfl) (hh.cellBox (i := 0) (by rfl) 0)) ?_
        refine T.pure (.int .i64 (IntKind.i64.wrap (1 + p0.kind))) (by kernel_rfl) (fun _ => by kernel_rfl) ?_
        refine T.pure (.string z2) (by kernel_rfl) (fun _ => by kernel_rfl) ?_
        refine T.pure (.agg #[.int .i64 (IntKind.i64.wrap (1 + p0.kind)), .string z2]) (by kernel_rfl) (fun _ => by kernel_rfl) ?_
        obtain ⟨r6, hb15, hF⟩ := Option.bind_eq_some_iff.1 hF
        refine T.step (W1.call (vT2 (vSc eStr) (vSc eInt)) r6 80 #[.agg #[.int .i64 (IntKind.i64.wrap (1 + p0.kind)), .string z2]] (by kernel_rfl) (fun _ => by kernel_rfl) (fun w' hh => frame_Put_l F (DFrame.mk (IntKind.i64.wrap (1 + p0.kind)) z2) r6 hb15 w' ) ?_)
        intro u V5 hV5 hu
        obtain rfl := (Sure.t2 sureStr sureInt) _ _ _ hu
        refine T.pure (.string r6.1) (by kernel_rfl) (fun _ => by kernel_rfl) ?_
        refine T.pure (.int .i64 r6.2) (by kernel_rfl) (fun _ => by kernel_rfl) ?_
        refine T.pure (.string r6.1) (by kernel_rfl) (fun _ => by kernel_rfl) ?_
        refine T.pure (.int .i64 r6.2) (by kernel_rfl) (fun _ => by kernel_rfl) ?_
        refine T.nil ?_
        cases hF
        refine T.ret rfl ?_
        exact T.ret2 rfl (ResIs.tmp rfl) (ResIs.tmp rfl) fun w' hh => ⟨_, rfl, hh.below, (vT2.mk (show _ from rfl) (show _ from rfl))⟩

set_option maxRecDepth 100000 in
set_option maxHeartbeats 4000000 in
theorem page_kids_l (F : Nat) (p0 : ByteArray) (r : DNode × Bool) (hF : page_kids F p0 = some r) (w : World)  :
    Calls Try.prog 95 #[.string p0] w (Post (vT2 (vAg eNode) (vSc eBool)) r w) := by
  unfold page_kids at hF
  refine T.start (l := [.string p0]) Try.func95 rfl rfl rfl ?_
  refine T.seq ?_
  refine T.region ?_
  refine T.step (W1.new 26 [.int .i64 0, .slice none 0 0, .slice none 0 0, .slice none 0 0, .slice none 0 0] (fun b => .pointer (some ⟨b, 0, none⟩)) (by kernel_rfl) (fun _ => by kernel_rfl) (fun b1 => ?_))
  refine T.pure (.bool false) (by kernel_rfl) (fun _ => by kernel_rfl) ?_
  refine T.nil ?_
  refine T.seq ?_
  refine T.region ?_
  refine T.pure (.agg #[.int .i64 2, .slice none 0 0, .slice none 0 0, .slice none 0 0, .slice none 0 0]) (by kernel_rfl) (fun _ => by kernel_rfl) ?_
  refine T.step (W1.new 26 [.int .i64 0, .slice none 0 0, .slice none 0 0, .slice none 0 0, .slice none 0 0] (fun b => .pointer (some ⟨b, 0, none⟩)) (by kernel_rfl) (fun _ => by kernel_rfl) (fun b2 => ?_))
  refine T.step (W1.store 0 [.int .i64 2, .slice none 0 0, .slice none 0 0, .slice none 0 0, .slice none 0 0] [box b2 26 [.int .i64 2, .slice none 0 0, .slice none 0 0, .slice none 0 0, .slice none 0 0], box b1 26 [.int .i64 0, .slice none 0 0, .slice none 0 0, .slice none 0 0, .slice none 0 0]] (by rfl) rfl (by kernel_rfl) (fun w' hw => exec_store (vs := [.int .i64 2, .slice none 0 0, .slice none 0 0, .slice none 0 0, .slice none 0 0]) rfl rfl rfl rfl (by kernel_rfl) (one_of rfl) (by simp) rfl hw) ?_)
  refine T.nil ?_
  refine T.seq ?_
  refine T.seq ?_
  refine T.region ?_
  refine T.pure (.int .i64 0) (by kernel_rfl) (fun _ => by kernel_rfl) ?_
  refine T.nil ?_
  refine T.rownil 3 eInt ?_
  refine T.rownil 3 eInt ?_
  refine T.rownil 46 eSpot ?_
  obtain ⟨q1, hz1, hF⟩ := Option.bind_eq_some_iff.1 hF
  refine T.mid (fun a w' => ∃ (z1 : List DSpot) (z2 : List Int) (z3 : List Int), q1 = Sum.inl (z1, z2, z3) ∧ ∃ (A4 : Option Addr) (c4 : Nat) (A5 : Option Addr) (c5 : Nat) (A6 : Option Addr) (c6 : Nat) (V2 : View), View.le (vw w) V2 ∧ Fr 68 [(2, .pointer (some ⟨b1, 0, none⟩)), (4, .pointer (some ⟨b2, 0, none⟩))] a ∧ Hp w V2 [row 46 eSpot A4 c4 z1, row 3 eInt A5 c5 z2, row 3 eInt A6 c6 z3, box b2 26 [.int .i64 2, .slice none 0 0, .slice A6 z3.length c6, .slice A4 z1.length c4, .slice A5 z2.length c5], box b1 26 [.int .i64 0, .slice none 0 0, .slice none 0 0, .slice none 0 0, .slice none 0 0]] w') ?_ ?_
  ·
    refine T.block ?_
    refine T.iter (fun s1 a w' => ∃ (x1 : List DSpot) (x2 : List Int) (x3 : List Int) (x4 : ByteArray) (x5 : Int), s1 = (x1, x2, x3, x4, x5) ∧ ∃ (A1 : Option Addr) (c1 : Nat) (A2 : Option Addr) (c2 : Nat) (A3 : Option Addr) (c3 : Nat) (V1 : View), View.le (vw w) V1 ∧ Fr 68 [(0, .string x4), (2, .pointer (some ⟨b1, 0, none⟩)), (4, .pointer (some ⟨b2, 0, none⟩)), (5, .int .i64 x5)] a ∧ Hp w V1 [row 46 eSpot A1 c1 x1, row 3 eInt A2 c2 x2, row 3 eInt A3 c3 x3, box b2 26 [.int .i64 2, .slice none 0 0, .slice A3 x3.length c3, .slice A1 x1.length c1, .slice A2 x2.length c2], box b1 26 [.int .i64 0, .slice none 0 0, .slice none 0 0, .slice none 0 0, .slice none 0 0]] w') hz1 ?_ ?_
    ·
      exact fun a w' hf hh => Exists.intro [] (Exists.intro [] (Exists.intro [] (Exists.intro p0 (Exists.intro 0 (And.intro rfl (Exists.intro none (Exists.intro 0 (Exists.intro none (Exists.intro 0 (Exists.intro none (Exists.intro 0 (Exists.intro (vw w) (And.intro (View.le_refl _) (And.intro (((((Fr.nil hf).pick hf 5 rfl).pick hf 4 rfl).pick hf 2 rfl).pick hf 0 rfl) (hh.sub (.cons_cons _ (.cons_cons _ (.cons_cons _ (.cons_cons _ (.cons_cons _ List.Sublist.slnil))))))))))))))))))))
    ·
      rintro s1 y1 hY1 hr1 a w' ⟨x1, x2, x3, x4, x5, rfl, A1, c1, A2, c2, A3, c3, V1, hV1, hf, hh⟩
      refine (?_ : T 68 w V1 [row 46 eSpot A1 c1 x1, row 3 eInt A2 c2 x2, row 3 eInt A3 c3 x3, box b2 26 [.int .i64 2, .slice none 0 0, .slice A3 x3.length c3, .slice A1 x1.length c1, .slice A2 x2.length c2], box b1 26 [.int .i64 0, .slice none 0 0, .slice none 0 0, .slice none 0 0, .slice none 0 0]] [(0, .string x4), (2, .pointer (some ⟨b1, 0, none⟩)), (4, .pointer (some ⟨b2, 0, none⟩)), (5, .int .i64 x5)] _) a w' hf hh
      clear hf hh
      try dsimp only at hY1
      refine T.seq ?_
      refine T.seq ?_
      refine T.region ?_
      refine T.pure (.string x4) (by kernel_rfl) (fun _ => by kernel_rfl) ?_
      refine T.pure (.bool (!(seq x4 (ByteArray.mk #[])))) (by kernel_rfl) (fun _ => by kernel_rfl) ?_
      refine T.nil ?_
      refine T.cond (!(seq x4 (ByteArray.mk #[]))) (by kernel_rfl) (by kernel_rfl) (fun hc1 => ?_) (fun hc1 => ?_)
      ·
        rw [hc1, cond_true] at hY1
        refine T.skip_code ?_
        obtain ⟨q2, hX1, hY1⟩ := Option.bind_eq_some_iff.1 hY1
        refine T.cut (fun a w' => ∃ (z4 : List DSpot) (z5 : List Int) (z6 : List Int) (z7 : ByteArray), q2 = Sum.inl (z4, z5, z6, z7) ∧ ∃ (A7 : Option Addr) (c7 : Nat) (A8 : Option Addr) (c8 : Nat) (A9 : Option Addr) (c9 : Nat) (V3 : View), View.le V1 V3 ∧ Fr 68 [(0, .string z7), (2, .pointer (some ⟨b1, 0, none⟩)), (4, .pointer (some ⟨b2, 0, none⟩)), (5, .int .i64 x5)] a ∧ Hp w V3 [row 46 eSpot A7 c7 z4, row 3 eInt A8 c8 z5, row 3 eInt A9 c9 z6, box b2 26 [.int .i64 2, .slice none 0 0, .slice A9 z6.length c9, .slice A7 z4.length c7, .slice A8 z5.length c8], box b1 26 [.int .i64 0, .slice none 0 0, .slice none 0 0, .slice none 0 0, .slice none 0 0]] w') ?_ ?_
        ·
          refine T.block ?_
          refine T.seq ?_
          refine T.seq ?_
          refine T.region ?_
          refine T.pure (.string x4) (by kernel_rfl) (fun _ => by kernel_rfl) ?_
          refine T.pure (.int .i64 (x4.size : Int)) (by kernel_rfl) (fun _ => by kernel_rfl) ?_
          refine T.pure (.bool (decide ((x4.size : Int) < 6))) (by kernel_rfl) (fun _ => by kernel_rfl) ?_
          refine T.nil ?_
          refine T.cond (decide ((x4.size : Int) < 6)) (by kernel_rfl) (by kernel_rfl) (fun hc2 => ?_) (fun hc2 => ?_)
          ·
            rw [hc2, cond_true] at hX1
            refine T.seq ?_
            refine T.region ?_
            refine T.look (.agg #[.int .i64 2, .slice none 0 0, .slice A3 x3.length c3, .slice A1 x1.length c1, .slice A2 x2.length c2]) (by kernel_rfl) (fun w' hh => exec_loadN (cs := [.int .i64 2, .slice none 0 0, .slice A3 x3.length c3, .slice A1 x1.length c1, .slice A2 x2.length c2]) rfl rfl (by kernel_rfl) (by kernel_rfl) (fun j u hj => (hh.box_at (i := 3) (cs := [.int .i64 2, .slice none 0 0, .slice A3 x3.length c3, .slice A1 x1.length c1, .slice A2 x2.length c2]) (by rfl) 0 j).trans (seg_at (n := 5) rfl hj))) ?_
            refine T.step (W1.store 4 [.int .i64 2, .slice none 0 0, .slice A3 x3.length c3, .slice A1 x1.length c1, .slice A2 x2.length c2] [row 46 eSpot A1 c1 x1, row 3 eInt A2 c2 x2, row 3 eInt A3 c3 x3, box b2 26 [.int .i64 2, .slice none 0 0, .slice A3 x3.length c3, .slice A1 x1.length c1, .slice A2 x2.length c2], box b1 26 [.int .i64 2, .slice none 0 0, .slice A3 x3.length c3, .slice A1 x1.length c1, .slice A2 x2.length c2]] (by rfl) rfl (by kernel_rfl) (fun w' hw => exec_store (vs := [.int .i64 2, .slice none 0 0, .slice A3 x3.length c3, .slice A1 x1.length c1, .slice A2 x2.length c2]) rfl rfl rfl rfl (by kernel_rfl) (one_of rfl) (by simp) rfl hw) ?_)
            refine T.pure (.bool false) (by kernel_rfl) (fun _ => by kernel_rfl) ?_
            refine T.nil ?_
            cases hX1
            try dsimp only at hY1
            cases hY1
            cases (hr1 _ rfl)
            try dsimp only at hF
            cases hF
            refine T.ret rfl ?_
            exact T.ret2 rfl (ResIs.cellN 4 rfl (by rfl) (fun _ => by kernel_rfl) (fun _ => by kernel_rfl)) (ResIs.tmp rfl) fun w' hh => ⟨_, rfl, hh.below, (vT2.mk (vAg.mk ⟨_, _, _, _, _, _, _, _, rfl, (SlOk.nil _ _), (hh.row_fresh (i := 2) (by rfl) (fun _ h => h)), (hh.row_fresh (i := 0) (by rfl) (fun _ h => h)), (hh.row_fresh (i := 1) (by rfl) (fun _ h => h))⟩) (show _ from rfl))⟩
          ·
            rw [hc2, cond_false] at hX1
            refine T.skip_code ?_
            refine T.seq ?_
            obtain ⟨s2, hb1, hX1⟩ := Option.bind_eq_some_iff.1 hX1
            obtain ⟨r4, hb2, hX1⟩ := Option.bind_eq_some_iff.1 hX1
            obtain ⟨y2, hb3, hX1⟩ := Option.bind_eq_some_iff.1 hX1
            refine T.mid (fun a w' => ∃ (A11 : Option Addr) (c11 : Nat) (V5 : View), View.le V1 V5 ∧ Fr 68 [(0, .string x4), (2, .pointer (some ⟨b1, 0, none⟩)), (4, .pointer (some ⟨b2, 0, none⟩)), (5, .int .i64 x5)] a ∧ Hp w V5 [row 46 eSpot A1 c1 x1, row 3 eInt A2 c2 x2, row 3 eInt A11 c11 (x3 ++ [r4]), box b2 26 [.int .i64 2, .slice none 0 0, .slice A11 ((x3 ++ [r4]).length) c11, .slice A1 x1.length c1, .slice A2 x2.length c2], box b1 26 [.int .i64 0, .slice none 0 0, .slice none 0 0, .slice none 0 0, .slice none 0 0]] w') ?_ ?_
            ·
              refine T.held [box b1 26 [.int .i64 0, .slice none 0 0, .slice none 0 0, .slice none 0 0, .slice none 0 0]] (by kernel_rfl) ?_
              refine TA.take 0 (.pointer (some ⟨b2, 2, none⟩)) rfl (by kernel_rfl) (by kernel_rfl) (by kernel_rfl) (fun _ _ _ h => h) (Hp.old (View.le_refl _) hV1 (.cons _ (.cons _ (.cons _ (.cons _ (.cons_cons _ List.Sublist.slnil))))) (OldAll.box OldAll.nil)) (by kernel_rfl) (fun _ _ => by kernel_rfl) ?_
              refine TA.take 2 (.string x4) rfl (by kernel_rfl) (by kernel_rfl) (by kernel_rfl) (fun _ _ _ h => h) (Hp.old (View.le_refl _) hV1 (.cons _ (.cons _ (.cons _ (.cons _ (.cons_cons _ List.Sublist.slnil))))) (OldAll.box OldAll.nil)) (by kernel_rfl) (fun _ _ => by kernel_rfl) ?_
              refine TA.take 3 (.string s2) rfl (by kernel_rfl) (by kernel_rfl) (by kernel_rfl) (fun _ _ _ h => h) (Hp.old (View.le_refl _) hV1 (.cons _ (.cons _ (.cons _ (.cons _ (.cons_cons _ List.Sublist.slnil))))) (OldAll.box OldAll.nil)) (by kernel_rfl) (fun w' hh => exec_slice_str_hi rfl rfl rfl (by kernel_rfl) hb1) ?_
              refine TA.all [1, 4] (by kernel_rfl) rfl ⟨?_, ?_, trivial⟩
              ·
                refine TA.br rfl (W1.look (.slice A3 x3.length c3) (by kernel_rfl) (fun w' hh => exec_load1 rfl rfl (by kernel_rfl) (hh.cellBox (i := 3) (by rfl) 2)) ?_)
                refine TA.on (Hp.old (View.le_refl _) hV1 (.cons _ (.cons _ (.cons _ (.cons _ (.cons_cons _ List.Sublist.slnil))))) (OldAll.box OldAll.nil)) ?_
                refine TA.all [4] (by kernel_rfl) rfl ⟨?_, trivial⟩
                refine TA.br rfl (W1.call (vSc eInt) r4 111 #[.string s2] (by kernel_rfl) (fun _ => by kernel_rfl) (fun w' hh => big_Get_l F s2 r4 hb2 w' ) ?_)
                intro u V4 hV4 hu
                obtain rfl := sureInt _ _ _ hu
                refine TA.on (Hp.old hV4 hV1 (.cons _ (.cons _ (.cons _ (.cons _ (.cons_cons _ List.Sublist.slnil))))) (OldAll.box OldAll.nil)) ?_
                refine TA.all [5] (by kernel_rfl) rfl ⟨?_, trivial⟩
                refine TA.br rfl (W1.new 3 [.int .i64 r4] (fun b => .slice (some ⟨b, 0, none⟩) 1 1) (by kernel_rfl) (fun _ => by kernel_rfl) (fun b3 => ?_))
                refine TA.on (Hp.old hV4 hV1 (.cons _ (.cons _ (.cons _ (.cons _ (.cons _ (.cons_cons _ List.Sublist.slnil)))))) (OldAll.box OldAll.nil)) ?_
                refine TA.all [6] (by kernel_rfl) rfl ⟨?_, trivial⟩
                obtain ⟨hb3_r, hb3_m, rfl⟩ := grow_some hb3
                obtain ⟨ti, hti, hz1, hz2, hz3⟩ := info_parts (P := Try.prog) (e := 3) (z := .int .i64 0) (size := 1) (bytes := 8) (by kernel_rfl)
                refine TA.br rfl (W1.append (E := eInt) (l := x3) (m := [r4]) 3 _ _ 8 ti _ (by rfl) (by kernel_rfl) rfl (by kernel_rfl) hti hz1 hz2 hz3 rfl (by decide) rfl rfl (fun w' hh => (SlOk.srcF (slok_lit (E := eInt) (f := (fun x => [.int .i64 x])) [r4] (fun _ _ => rfl) (Nat.le_of_ble_eq_true (by rfl)) (fun j => hh.cellBox (i := 0) (by rfl) j)) (fun _ _ _ _ h => h))) hb3_r hb3_m (fun A10 c10 => ?_))
                refine TA.on (Hp.old hV4 hV1 (.cons _ (.cons _ (.cons _ (.cons _ (.cons _ (.cons_cons _ List.Sublist.slnil)))))) (OldAll.box OldAll.nil)) ?_
                refine TA.take 7 (.pointer (some ⟨b2, 2, none⟩)) rfl (by kernel_rfl) (by kernel_rfl) (by kernel_rfl) (fun _ _ _ h => h) (Hp.old hV4 hV1 (.cons _ (.cons _ (.cons _ (.cons _ (.cons _ (.cons_cons _ List.Sublist.slnil)))))) (OldAll.box OldAll.nil)) (by kernel_rfl) (fun _ _ => by kernel_rfl) ?_
                refine TA.all [8] (by kernel_rfl) rfl ⟨?_, trivial⟩
                refine TA.br rfl (W1.store 4 [.int .i64 2, .slice none 0 0, .slice A10 ((x3 ++ [r4]).length) c10, .slice A1 x1.length c1, .slice A2 x2.length c2] [box b3 3 [.int .i64 r4], row 46 eSpot A1 c1 x1, row 3 eInt A2 c2 x2, row 3 eInt A10 c10 (x3 ++ [r4]), box b2 26 [.int .i64 2, .slice none 0 0, .slice A10 ((x3 ++ [r4]).length) c10, .slice A1 x1.length c1, .slice A2 x2.length c2], box b1 26 [.int .i64 0, .slice none 0 0, .slice none 0 0, .slice none 0 0, .slice none 0 0]] (by rfl) rfl (by kernel_rfl) (fun w' hw => exec_store (vs := [.slice A10 ((x3 ++ [r4]).length) c10]) rfl rfl rfl rfl (by kernel_rfl) (one_of rfl) (by simp) rfl hw) ?_)
                refine TA.on (Hp.old hV4 hV1 (.cons _ (.cons _ (.cons _ (.cons _ (.cons _ (.cons_cons _ List.Sublist.slnil)))))) (OldAll.box OldAll.nil)) ?_
                refine TA.done (by kernel_rfl) ?_
                exact fun a w' hf hh => Exists.intro A10 (Exists.intro c10 (Exists.intro V4 (And.intro hV4 (And.intro (((((Fr.nil hf).pick hf 5 rfl).pick hf 4 rfl).pick hf 2 rfl).pick hf 0 rfl) (hh.sub (.cons _ (.cons_cons _ (.cons_cons _ (.cons_cons _ (.cons_cons _ (.cons_cons _ List.Sublist.slnil)))))))))))
              ·
                refine TA.br rfl (W1.call (vSc eInt) r4 111 #[.string s2] (by kernel_rfl) (fun _ => by kernel_rfl) (fun w' hh => big_Get_l F s2 r4 hb2 w' ) ?_)
                intro u V4 hV4 hu
                obtain rfl := sureInt _ _ _ hu
                refine TA.on (Hp.old hV4 hV1 (.cons _ (.cons _ (.cons _ (.cons _ (.cons_cons _ List.Sublist.slnil))))) (OldAll.box OldAll.nil)) ?_
                refine TA.all [1, 5] (by kernel_rfl) rfl ⟨?_, ?_, trivial⟩
                ·
                  refine TA.br rfl (W1.look (.slice A3 x3.length c3) (by kernel_rfl) (fun w' hh => exec_load1 rfl rfl (by kernel_rfl) (hh.cellBox (i := 3) (by rfl) 2)) ?_)
                  refine TA.on (Hp.old hV4 hV1 (.cons _ (.cons _ (.cons _ (.cons _ (.cons_cons _ List.Sublist.slnil))))) (OldAll.box OldAll.nil)) ?_
                  refine TA.all [5] (by kernel_rfl) rfl ⟨?_, trivial⟩
                  refine TA.br rfl (W1.new 3 [.int .i64 r4] (fun b => .slice (some ⟨b, 0, none⟩) 1 1) (by kernel_rfl) (fun _ => by kernel_rfl) (fun b3 => ?_))
                  refine TA.on (Hp.old hV4 hV1 (.cons _ (.cons _ (.cons _ (.cons _ (.cons _ (.cons_cons _ List.Sublist.slnil)))))) (OldAll.box OldAll.nil)) ?_
                  refine TA.all [6] (by kernel_rfl) rfl ⟨?_, trivial⟩
                  obtain ⟨hb3_r, hb3_m, rfl⟩ := grow_some hb3
                  obtain ⟨ti, hti, hz1, hz2, hz3⟩ := info_parts (P := Try.prog) (e := 3) (z := .int .i64 0) (size := 1) (bytes := 8) (by kernel_rfl)
                  refine TA.br rfl (W1.append (E := eInt) (l := x3) (m := [r4]) 3 _ _ 8 ti _ (by rfl) (by kernel_rfl) rfl (by kernel_rfl) hti hz1 hz2 hz3 rfl (by decide) rfl rfl (fun w' hh => (SlOk.srcF (slok_lit (E := eInt) (f := (fun x => [.int .i64 x])) [r4] (fun _ _ => rfl) (Nat.le_of_ble_eq_true (by rfl)) (fun j => hh.cellBox (i := 0) (by rfl) j)) (fun _ _ _ _ h => h))) hb3_r hb3_m (fun A10 c10 => ?_))
                  refine TA.on (Hp.old hV4 hV1 (.cons _ (.cons _ (.cons _ (.cons _ (.cons _ (.cons_cons _ List.Sublist.slnil)))))) (OldAll.box OldAll.nil)) ?_
                  refine TA.take 7 (.pointer (some ⟨b2, 2, none⟩)) rfl (by kernel_rfl) (by kernel_rfl) (by kernel_rfl) (fun _ _ _ h => h) (Hp.old hV4 hV1 (.cons _ (.cons _ (.cons _ (.cons _ (.cons _ (.cons_cons _ List.Sublist.slnil)))))) (OldAll.box OldAll.nil)) (by kernel_rfl) (fun _ _ => by kernel_rfl) ?_
                  refine TA.all [8] (by kernel_rfl) rfl ⟨?_, trivial⟩
                  refine TA.br rfl (W1.store 4 [.int .i64 2, .slice none 0 0, .slice A10 ((x3 ++ [r4]).length) c10, .slice A1 x1.length c1, .slice A2 x2.length c2] [box b3 3 [.int .i64 r4], row 46 eSpot A1 c1 x1, row 3 eInt A2 c2 x2, row 3 eInt A10 c10 (x3 ++ [r4]), box b2 26 [.int .i64 2, .slice none 0 0, .slice A10 ((x3 ++ [r4]).length) c10, .slice A1 x1.length c1, .slice A2 x2.length c2], box b1 26 [.int .i64 0, .slice none 0 0, .slice none 0 0, .slice none 0 0, .slice none 0 0]] (by rfl) rfl (by kernel_rfl) (fun w' hw => exec_store (vs := [.slice A10 ((x3 ++ [r4]).length) c10]) rfl rfl rfl rfl (by kernel_rfl) (one_of rfl) (by simp) rfl hw) ?_)
                  refine TA.on (Hp.old hV4 hV1 (.cons _ (.cons _ (.cons _ (.cons _ (.cons _ (.cons_cons _ List.Sublist.slnil)))))) (OldAll.box OldAll.nil)) ?_
                  refine TA.done (by kernel_rfl) ?_
                  exact fun a w' hf hh => Exists.intro A10 (Exists.intro c10 (Exists.intro V4 (And.intro hV4 (And.intro (((((Fr.nil hf).pick hf 5 rfl).pick hf 4 rfl).pick hf 2 rfl).pick hf 0 rfl) (hh.sub (.cons _ (.cons_cons _ (.cons_cons _ (.cons_cons _ (.cons_cons _ (.cons_cons _ List.Sublist.slnil)))))))))))
                ·
                  refine TA.br rfl (W1.new 3 [.int .i64 r4] (fun b => .slice (some ⟨b, 0, none⟩) 1 1) (by kernel_rfl) (fun _ => by kernel_rfl) (fun b3 => ?_))
                  refine TA.on (Hp.old hV4 hV1 (.cons _ (.cons _ (.cons _ (.cons _ (.cons _ (.cons_cons _ List.Sublist.slnil)))))) (OldAll.box OldAll.nil)) ?_
                  refine TA.all [1] (by kernel_rfl) rfl ⟨?_, trivial⟩
                  refine TA.br rfl (W1.look (.slice A3 x3.length c3) (by kernel_rfl) (fun w' hh => exec_load1 rfl rfl (by kernel_rfl) (hh.cellBox (i := 4) (by rfl) 2)) ?_)
                  refine TA.on (Hp.old hV4 hV1 (.cons _ (.cons _ (.cons _ (.cons _ (.cons _ (.cons_cons _ List.Sublist.slnil)))))) (OldAll.box OldAll.nil)) ?_
                  refine TA.all [6] (by kernel_rfl) rfl ⟨?_, trivial⟩
                  obtain ⟨hb3_r, hb3_m, rfl⟩ := grow_some hb3
                  obtain ⟨ti, hti, hz1, hz2, hz3⟩ := info_parts (P := Try.prog) (e := 3) (z := .int .i64 0) (size := 1) (bytes := 8) (by kernel_rfl)
                  refine TA.br rfl (W1.append (E := eInt) (l := x3) (m := [r4]) 3 _ _ 8 ti _ (by rfl) (by kernel_rfl) rfl (by kernel_rfl) hti hz1 hz2 hz3 rfl (by decide) rfl rfl (fun w' hh => (SlOk.srcF (slok_lit (E := eInt) (f := (fun x => [.int .i64 x])) [r4] (fun _ _ => rfl) (Nat.le_of_ble_eq_true (by rfl)) (fun j => hh.cellBox (i := 0) (by rfl) j)) (fun _ _ _ _ h => h))) hb3_r hb3_m (fun A10 c10 => ?_))
                  refine TA.on (Hp.old hV4 hV1 (.cons _ (.cons _ (.cons _ (.cons _ (.cons _ (.cons_cons _ List.Sublist.slnil)))))) (OldAll.box OldAll.nil)) ?_
                  refine TA.take 7 (.pointer (some ⟨b2, 2, none⟩)) rfl (by kernel_rfl) (by kernel_rfl) (by kernel_rfl) (fun _ _ _ h => h) (Hp.old hV4 hV1 (.cons _ (.cons _ (.cons _ (.cons _ (.cons _ (.cons_cons _ List.Sublist.slnil)))))) (OldAll.box OldAll.nil)) (by kernel_rfl) (fun _ _ => by kernel_rfl) ?_
                  refine TA.all [8] (by kernel_rfl) rfl ⟨?_, trivial⟩
                  refine TA.br rfl (W1.store 4 [.int .i64 2, .slice none 0 0, .slice A10 ((x3 ++ [r4]).length) c10, .slice A1 x1.length c1, .slice A2 x2.length c2] [box b3 3 [.int .i64 r4], row 46 eSpot A1 c1 x1, row 3 eInt A2 c2 x2, row 3 eInt A10 c10 (x3 ++ [r4]), box b2 26 [.int .i64 2, .slice none 0 0, .slice A10 ((x3 ++ [r4]).length) c10, .slice A1 x1.length c1, .slice A2 x2.length c2], box b1 26 [.int .i64 0, .slice none 0 0, .slice none 0 0, .slice none 0 0, .slice none 0 0]] (by rfl) rfl (by kernel_rfl) (fun w' hw => exec_store (vs := [.slice A10 ((x3 ++ [r4]).length) c10]) rfl rfl rfl rfl (by kernel_rfl) (one_of rfl) (by simp) rfl hw) ?_)
                  refine TA.on (Hp.old hV4 hV1 (.cons _ (.cons _ (.cons _ (.cons _ (.cons _ (.cons_cons _ List.Sublist.slnil)))))) (OldAll.box OldAll.nil)) ?_
                  refine TA.done (by kernel_rfl) ?_
                  exact fun a w' hf hh => Exists.intro A10 (Exists.intro c10 (Exists.intro V4 (And.intro hV4 (And.intro (((((Fr.nil hf).pick hf 5 rfl).pick hf 4 rfl).pick hf 2 rfl).pick hf 0 rfl) (hh.sub (.cons _ (.cons_cons _ (.cons_cons _ (.cons_cons _ (.cons_cons _ (.cons_cons _ List.Sublist.slnil)))))))))))
            ·
              rintro a w' ⟨A11, c11, V5, hV5, hf, hh⟩
              refine (?_ : T 68 w V5 [row 46 eSpot A1 c1 x1, row 3 eInt A2 c2 x2, row 3 eInt A11 c11 (x3 ++ [r4]), box b2 26 [.int .i64 2, .slice none 0 0, .slice A11 ((x3 ++ [r4]).length) c11, .slice A1 x1.length c1, .slice A2 x2.length c2], box b1 26 [.int .i64 0, .slice none 0 0, .slice none 0 0, .slice none 0 0, .slice none 0 0]] [(0, .string x4), (2, .pointer (some ⟨b1, 0, none⟩)), (4, .pointer (some ⟨b2, 0, none⟩)), (5, .int .i64 x5)] _) a w' hf hh
              clear hf hh
              refine T.seq ?_
              obtain ⟨s3, hb4, hX1⟩ := Option.bind_eq_some_iff.1 hX1
              obtain ⟨r5, hb5, hX1⟩ := Option.bind_eq_some_iff.1 hX1
              obtain ⟨y3, hb6, hX1⟩ := Option.bind_eq_some_iff.1 hX1
              refine T.mid (fun a w' => ∃ (A13 : Option Addr) (c13 : Nat) (V7 : View), View.le V5 V7 ∧ Fr 68 [(0, .string x4), (2, .pointer (some ⟨b1, 0, none⟩)), (4, .pointer (some ⟨b2, 0, none⟩)), (5, .int .i64 x5)] a ∧ Hp w V7 [row 46 eSpot A1 c1 x1, row 3 eInt A13 c13 (x2 ++ [r5]), row 3 eInt A11 c11 (x3 ++ [r4]), box b2 26 [.int .i64 2, .slice none 0 0, .slice A11 ((x3 ++ [r4]).length) c11, .slice A1 x1.length c1, .slice A13 ((x2 ++ [r5]).length) c13], box b1 26 [.int .i64 0, .slice none 0 0, .slice none 0 0, .slice none 0 0, .slice none 0 0]] w') ?_ ?_
              ·
                refine T.held [row 46 eSpot A1 c1 x1, row 3 eInt A11 c11 (x3 ++ [r4]), box b1 26 [.int .i64 0, .slice none 0 0, .slice none 0 0, .slice none 0 0, .slice none 0 0]] (by kernel_rfl) ?_
                refine TA.take 0 (.pointer (some ⟨b2, 4, none⟩)) rfl (by kernel_rfl) (by kernel_rfl) (by kernel_rfl) (fun _ _ _ h => h) (Hp.old (View.le_refl _) (View.le_trans hV1 hV5) (.cons_cons _ (.cons _ (.cons_cons _ (.cons _ (.cons_cons _ List.Sublist.slnil))))) (OldAll.row (fun _ _ _ _ h => h) (OldAll.row (fun _ _ _ _ h => h) (OldAll.box OldAll.nil)))) (by kernel_rfl) (fun _ _ => by kernel_rfl) ?_
                refine TA.take 2 (.string x4) rfl (by kernel_rfl) (by kernel_rfl) (by kernel_rfl) (fun _ _ _ h => h) (Hp.old (View.le_refl _) (View.le_trans hV1 hV5) (.cons_cons _ (.cons _ (.cons_cons _ (.cons _ (.cons_cons _ List.Sublist.slnil))))) (OldAll.row (fun _ _ _ _ h => h) (OldAll.row (fun _ _ _ _ h => h) (OldAll.box OldAll.nil)))) (by kernel_rfl) (fun _ _ => by kernel_rfl) ?_
                refine TA.take 3 (.string s3) rfl (by kernel_rfl) (by kernel_rfl) (by kernel_rfl) (fun _ _ _ h => h) (Hp.old (View.le_refl _) (View.le_trans hV1 hV5) (.cons_cons _ (.cons _ (.cons_cons _ (.cons _ (.cons_cons _ List.Sublist.slnil))))) (OldAll.row (fun _ _ _ _ h => h) (OldAll.row (fun _ _ _ _ h => h) (OldAll.box OldAll.nil)))) (by kernel_rfl) (fun w' hh => exec_slice_str rfl rfl rfl rfl (by kernel_rfl) hb4) ?_
                refine TA.all [1, 4] (by kernel_rfl) rfl ⟨?_, ?_, trivial⟩
                ·
                  refine TA.br rfl (W1.look (.slice A2 x2.length c2) (by kernel_rfl) (fun w' hh => exec_load1 rfl rfl (by kernel_rfl) (hh.cellBox (i := 3) (by rfl) 4)) ?_)
                  refine TA.on (Hp.old (View.le_refl _) (View.le_trans hV1 hV5) (.cons_cons _ (.cons _ (.cons_cons _ (.cons _ (.cons_cons _ List.Sublist.slnil))))) (OldAll.row (fun _ _ _ _ h => h) (OldAll.row (fun _ _ _ _ h => h) (OldAll.box OldAll.nil)))) ?_
                  refine TA.all [4] (by kernel_rfl) rfl ⟨?_, trivial⟩
                  refine TA.br rfl (W1.call (vSc eInt) r5 111 #[.string s3] (by kernel_rfl) (fun _ => by kernel_rfl) (fun w' hh => big_Get_l F s3 r5 hb5 w' ) ?_)
                  intro u V6 hV6 hu
                  obtain rfl := sureInt _ _ _ hu
                  refine TA.on (Hp.old hV6 (View.le_trans hV1 hV5) (.cons_cons _ (.cons _ (.cons_cons _ (.cons _ (.cons_cons _ List.Sublist.slnil))))) (OldAll.row (fun _ _ _ _ h => h) (OldAll.row (fun _ _ _ _ h => h) (OldAll.box OldAll.nil)))) ?_
                  refine TA.all [5] (by kernel_rfl) rfl ⟨?_, trivial⟩
                  refine TA.br rfl (W1.new 3 [.int .i64 r5] (fun b => .slice (some ⟨b, 0, none⟩) 1 1) (by kernel_rfl) (fun _ => by kernel_rfl) (fun b4 => ?_))
                  refine TA.on (Hp.old hV6 (View.le_trans hV1 hV5) (.cons _ (.cons_cons _ (.cons _ (.cons_cons _ (.cons _ (.cons_cons _ List.Sublist.slnil)))))) (OldAll.row (fun _ _ _ _ h => h) (OldAll.row (fun _ _ _ _ h => h) (OldAll.box OldAll.nil)))) ?_
                  refine TA.all [6] (by kernel_rfl) rfl ⟨?_, trivial⟩
                  obtain ⟨hb6_r, hb6_m, rfl⟩ := grow_some hb6
                  obtain ⟨ti, hti, hz1, hz2, hz3⟩ := info_parts (P := Try.prog) (e := 3) (z := .int .i64 0) (size := 1) (bytes := 8) (by kernel_rfl)
                  refine TA.br rfl (W1.append (E := eInt) (l := x2) (m := [r5]) 2 _ _ 8 ti _ (by rfl) (by kernel_rfl) rfl (by kernel_rfl) hti hz1 hz2 hz3 rfl (by decide) rfl rfl (fun w' hh => (SlOk.srcF (slok_lit (E := eInt) (f := (fun x => [.int .i64 x])) [r5] (fun _ _ => rfl) (Nat.le_of_ble_eq_true (by rfl)) (fun j => hh.cellBox (i := 0) (by rfl) j)) (fun _ _ _ _ h => h))) hb6_r hb6_m (fun A12 c12 => ?_))
                  refine TA.on (Hp.old hV6 (View.le_trans hV1 hV5) (.cons _ (.cons_cons _ (.cons _ (.cons_cons _ (.cons _ (.cons_cons _ List.Sublist.slnil)))))) (OldAll.row (fun _ _ _ _ h => h) (OldAll.row (fun _ _ _ _ h => h) (OldAll.box OldAll.nil)))) ?_
                  refine TA.take 7 (.pointer (some ⟨b2, 4, none⟩)) rfl (by kernel_rfl) (by kernel_rfl) (by kernel_rfl) (fun _ _ _ h => h) (Hp.old hV6 (View.le_trans hV1 hV5) (.cons _ (.cons_cons _ (.cons _ (.cons_cons _ (.cons _ (.cons_cons _ List.Sublist.slnil)))))) (OldAll.row (fun _ _ _ _ h => h) (OldAll.row (fun _ _ _ _ h => h) (OldAll.box OldAll.nil)))) (by kernel_rfl) (fun _ _ => by kernel_rfl) ?_
                  refine TA.all [8] (by kernel_rfl) rfl ⟨?_, trivial⟩
                  refine TA.br rfl (W1.store 4 [.int .i64 2, .slice none 0 0, .slice A11 ((x3 ++ [r4]).length) c11, .slice A1 x1.length c1, .slice A12 ((x2 ++ [r5]).length) c12] [box b4 3 [.int .i64 r5], row 46 eSpot A1 c1 x1, row 3 eInt A12 c12 (x2 ++ [r5]), row 3 eInt A11 c11 (x3 ++ [r4]), box b2 26 [.int .i64 2, .slice none 0 0, .slice A11 ((x3 ++ [r4]).length) c11, .slice A1 x1.length c1, .slice A12 ((x2 ++ [r5]).length) c12], box b1 26 [.int .i64 0, .slice none 0 0, .slice none 0 0, .slice none 0 0, .slice none 0 0]] (by rfl) rfl (by kernel_rfl) (fun w' hw => exec_store (vs := [.slice A12 ((x2 ++ [r5]).length) c12]) rfl rfl rfl rfl (by kernel_rfl) (one_of rfl) (by simp) rfl hw) ?_)
                  refine TA.on (Hp.old hV6 (View.le_trans hV1 hV5) (.cons _ (.cons_cons _ (.cons _ (.cons_cons _ (.cons _ (.cons_cons _ List.Sublist.slnil)))))) (OldAll.row (fun _ _ _ _ h => h) (OldAll.row (fun _ _ _ _ h => h) (OldAll.box OldAll.nil)))) ?_
                  refine TA.done (by kernel_rfl) ?_
                  exact fun a w' hf hh => Exists.intro A12 (Exists.intro c12 (Exists.intro V6 (And.intro hV6 (And.intro (((((Fr.nil hf).pick hf 5 rfl).pick hf 4 rfl).pick hf 2 rfl).pick hf 0 rfl) (hh.sub (.cons _ (.cons_cons _ (.cons_cons _ (.cons_cons _ (.cons_cons _ (.cons_cons _ List.Sublist.slnil)))))))))))
                ·
                  refine TA.br rfl (W1.call (vSc eInt) r5 111 #[.string s3] (by kernel_rfl) (fun _ => by kernel_rfl) (fun w' hh => big_Get_l F s3 r5 hb5 w' ) ?_)
                  intro u V6 hV6 hu
                  obtain rfl := sureInt _ _ _ hu
                  refine TA.on (Hp.old hV6 (View.le_trans hV1 hV5) (.cons_cons _ (.cons _ (.cons_cons _ (.cons _ (.cons_cons _ List.Sublist.slnil))))) (OldAll.row (fun _ _ _ _ h => h) (OldAll.row (fun _ _ _ _ h => h) (OldAll.box OldAll.nil)))) ?_
                  refine TA.all [1, 5] (by kernel_rfl) rfl ⟨?_, ?_, trivial⟩
                  ·
                    refine TA.br rfl (W1.look (.slice A2 x2.length c2) (by kernel_rfl) (fun w' hh => exec_load1 rfl rfl (by kernel_rfl) (hh.cellBox (i := 3) (by rfl) 4)) ?_)
                    refine TA.on (Hp.old hV6 (View.le_trans hV1 hV5) (.cons_cons _ (.cons _ (.cons_cons _ (.cons _ (.cons_cons _ List.Sublist.slnil))))) (OldAll.row (fun _ _ _ _ h => h) (OldAll.row (fun _ _ _ _ h => h) (OldAll.box OldAll.nil)))) ?_
                    refine TA.all [5] (by kernel_rfl) rfl ⟨?_, trivial⟩
                    refine TA.br rfl (W1.new 3 [.int .i64 r5] (fun b => .slice (some ⟨b, 0, none⟩) 1 1) (by kernel_rfl) (fun _ => by kernel_rfl) (fun b4 => ?_))
                    refine TA.on (Hp.old hV6 (View.le_trans hV1 hV5) (.cons _ (.cons_cons _ (.cons _ (.cons_cons _ (.cons _ (.cons_cons _ List.Sublist.slnil)))))) (OldAll.row (fun _ _ _ _ h => h) (OldAll.row (fun _ _ _ _ h => h) (OldAll.box OldAll.nil)))) ?_
                    refine TA.all [6] (by kernel_rfl) rfl ⟨?_, trivial⟩
                    obtain ⟨hb6_r, hb6_m, rfl⟩ := grow_some hb6
                    obtain ⟨ti, hti, hz1, hz2, hz3⟩ := info_parts (P := Try.prog) (e := 3) (z := .int .i64 0) (size := 1) (bytes := 8) (by kernel_rfl)
                    refine TA.br rfl (W1.append (E := eInt) (l := x2) (m := [r5]) 2 _ _ 8 ti _ (by rfl) (by kernel_rfl) rfl (by kernel_rfl) hti hz1 hz2 hz3 rfl (by decide) rfl rfl (fun w' hh => (SlOk.srcF (slok_lit (E := eInt) (f := (fun x => [.int .i64 x])) [r5] (fun _ _ => rfl) (Nat.le_of_ble_eq_true (by rfl)) (fun j => hh.cellBox (i := 0) (by rfl) j)) (fun _ _ _ _ h => h))) hb6_r hb6_m (fun A12 c12 => ?_))
                    refine TA.on (Hp.old hV6 (View.le_trans hV1 hV5) (.cons _ (.cons_cons _ (.cons _ (.cons_cons _ (.cons _ (.cons_cons _ List.Sublist.slnil)))))) (OldAll.row (fun _ _ _ _ h => h) (OldAll.row (fun _ _ _ _ h => h) (OldAll.box OldAll.nil)))) ?_
                    refine TA.take 7 (.pointer (some ⟨b2, 4, none⟩)) rfl (by kernel_rfl) (by kernel_rfl) (by kernel_rfl) (fun _ _ _ h => h) (Hp.old hV6 (View.le_trans hV1 hV5) (.cons _ (.cons_cons _ (.cons _ (.cons_cons _ (.cons _ (.cons_cons _ List.Sublist.slnil)))))) (OldAll.row (fun _ _ _ _ h => h) (OldAll.row (fun _ _ _ _ h => h) (OldAll.box OldAll.nil)))) (by kernel_rfl) (fun _ _ => by kernel_rfl) ?_
                    refine TA.all [8] (by kernel_rfl) rfl ⟨?_, trivial⟩
                    refine TA.br rfl (W1.store 4 [.int .i64 2, .slice none 0 0, .slice A11 ((x3 ++ [r4]).length) c11, .slice A1 x1.length c1, .slice A12 ((x2 ++ [r5]).length) c12] [box b4 3 [.int .i64 r5], row 46 eSpot A1 c1 x1, row 3 eInt A12 c12 (x2 ++ [r5]), row 3 eInt A11 c11 (x3 ++ [r4]), box b2 26 [.int .i64 2, .slice none 0 0, .slice A11 ((x3 ++ [r4]).length) c11, .slice A1 x1.length c1, .slice A12 ((x2 ++ [r5]).length) c12], box b1 26 [.int .i64 0, .slice none 0 0, .slice none 0 0, .slice none 0 0, .slice none 0 0]] (by rfl) rfl (by kernel_rfl) (fun w' hw => exec_store (vs := [.slice A12 ((x2 ++ [r5]).length) c12]) rfl rfl rfl rfl (by kernel_rfl) (one_of rfl) (by simp) rfl hw) ?_)
                    refine TA.on (Hp.old hV6 (View.le_trans hV1 hV5) (.cons _ (.cons_cons _ (.cons _ (.cons_cons _ (.cons _ (.cons_cons _ List.Sublist.slnil)))))) (OldAll.row (fun _ _ _ _ h => h) (OldAll.row (fun _ _ _ _ h => h) (OldAll.box OldAll.nil)))) ?_
                    refine TA.done (by kernel_rfl) ?_
                    exact fun a w' hf hh => Exists.intro A12 (Exists.intro c12 (Exists.intro V6 (And.intro hV6 (And.intro (((((Fr.nil hf).pick hf 5 rfl).pick hf 4 rfl).pick hf 2 rfl).pick hf 0 rfl) (hh.sub (.cons _ (.cons_cons _ (.cons_cons _ (.cons_cons _ (.cons_cons _ (.cons_cons _ List.Sublist.slnil)))))))))))
                  ·
                    refine TA.br rfl (W1.new 3 [.int .i64 r5] (fun b => .slice (some ⟨b, 0, none⟩) 1 1) (by kernel_rfl) (fun _ => by kernel_rfl) (fun b4 => ?_))
                    refine TA.on (Hp.old hV6 (View.le_trans hV1 hV5) (.cons _ (.cons_cons _ (.cons _ (.cons_cons _ (.cons _ (.cons_cons _ List.Sublist.slnil)))))) (OldAll.row (fun _ _ _ _ h => h) (OldAll.row (fun _ _ _ _ h => h) (OldAll.box OldAll.nil)))) ?_
                    refine TA.all [1] (by kernel_rfl) rfl ⟨?_, trivial⟩
                    refine TA.br rfl (W1.look (.slice A2 x2.length c2) (by kernel_rfl) (fun w' hh => exec_load1 rfl rfl (by kernel_rfl) (hh.cellBox (i := 4) (by rfl) 4)) ?_)
                    refine TA.on (Hp.old hV6 (View.le_trans hV1 hV5) (.cons _ (.cons_cons _ (.cons _ (.cons_cons _ (.cons _ (.cons_cons _ List.Sublist.slnil)))))) (OldAll.row (fun _ _ _ _ h => h) (OldAll.row (fun _ _ _ _ h => h) (OldAll.box OldAll.nil)))) ?_
                    refine TA.all [6] (by kernel_rfl) rfl ⟨?_, trivial⟩
                    obtain ⟨hb6_r, hb6_m, rfl⟩ := grow_some hb6
                    obtain ⟨ti, hti, hz1, hz2, hz3⟩ := info_parts (P := Try.prog) (e := 3) (z := .int .i64 0) (size := 1) (bytes := 8) (by kernel_rfl)
                    refine TA.br rfl (W1.append (E := eInt) (l := x2) (m := [r5]) 2 _ _ 8 ti _ (by rfl) (by kernel_rfl) rfl (by kernel_rfl) hti hz1 hz2 hz3 rfl (by decide) rfl rfl (fun w' hh => (SlOk.srcF (slok_lit (E := eInt) (f := (fun x => [.int .i64 x])) [r5] (fun _ _ => rfl) (Nat.le_of_ble_eq_true (by rfl)) (fun j => hh.cellBox (i := 0) (by rfl) j)) (fun _ _ _ _ h => h))) hb6_r hb6_m (fun A12 c12 => ?_))
                    refine TA.on (Hp.old hV6 (View.le_trans hV1 hV5) (.cons _ (.cons_cons _ (.cons _ (.cons_cons _ (.cons _ (.cons_cons _ List.Sublist.slnil)))))) (OldAll.row (fun _ _ _ _ h => h) (OldAll.row (fun _ _ _ _ h => h) (OldAll.box OldAll.nil)))) ?_
                    refine TA.take 7 (.pointer (some ⟨b2, 4, none⟩)) rfl (by kernel_rfl) (by kernel_rfl) (by kernel_rfl) (fun _ _ _ h => h) (Hp.old hV6 (View.le_trans hV1 hV5) (.cons _ (.cons_cons _ (.cons _ (.cons_cons _ (.cons _ (.cons_cons _ List.Sublist.slnil)))))) (OldAll.row (fun _ _ _ _ h => h) (OldAll.row (fun _ _ _ _ h => h) (OldAll.box OldAll.nil)))) (by kernel_rfl) (fun _ _ => by kernel_rfl) ?_
                    refine TA.all [8] (by kernel_rfl) rfl ⟨?_, trivial⟩
                    refine TA.br rfl (W1.store 4 [.int .i64 2, .slice none 0 0, .slice A11 ((x3 ++ [r4]).length) c11, .slice A1 x1.length c1, .slice A12 ((x2 ++ [r5]).length) c12] [box b4 3 [.int .i64 r5], row 46 eSpot A1 c1 x1, row 3 eInt A12 c12 (x2 ++ [r5]), row 3 eInt A11 c11 (x3 ++ [r4]), box b2 26 [.int .i64 2, .slice none 0 0, .slice A11 ((x3 ++ [r4]).length) c11, .slice A1 x1.length c1, .slice A12 ((x2 ++ [r5]).length) c12], box b1 26 [.int .i64 0, .slice none 0 0, .slice none 0 0, .slice none 0 0, .slice none 0 0]] (by rfl) rfl (by kernel_rfl) (fun w' hw => exec_store (vs := [.slice A12 ((x2 ++ [r5]).length) c12]) rfl rfl rfl rfl (by kernel_rfl) (one_of rfl) (by simp) rfl hw) ?_)
                    refine TA.on (Hp.old hV6 (View.le_trans hV1 hV5) (.cons _ (.cons_cons _ (.cons _ (.cons_cons _ (.cons _ (.cons_cons _ List.Sublist.slnil)))))) (OldAll.row (fun _ _ _ _ h => h) (OldAll.row (fun _ _ _ _ h => h) (OldAll.box OldAll.nil)))) ?_
                    refine TA.done (by kernel_rfl) ?_
                    exact fun a w' hf hh => Exists.intro A12 (Exists.intro c12 (Exists.intro V6 (And.intro hV6 (And.intro (((((Fr.nil hf).pick hf 5 rfl).pick hf 4 rfl).pick hf 2 rfl).pick hf 0 rfl) (hh.sub (.cons _ (.cons_cons _ (.cons_cons _ (.cons_cons _ (.cons_cons _ (.cons_cons _ List.Sublist.slnil)))))))))))
              ·
                rintro a w' ⟨A13, c13, V7, hV7, hf, hh⟩
                refine (?_ : T 68 w V7 [row 46 eSpot A1 c1 x1, row 3 eInt A13 c13 (x2 ++ [r5]), row 3 eInt A11 c11 (x3 ++ [r4]), box b2 26 [.int .i64 2, .slice none 0 0, .slice A11 ((x3 ++ [r4]).length) c11, .slice A1 x1.length c1, .slice A13 ((x2 ++ [r5]).length) c13], box b1 26 [.int .i64 0, .slice none 0 0, .slice none 0 0, .slice none 0 0, .slice none 0 0]] [(0, .string x4), (2, .pointer (some ⟨b1, 0, none⟩)), (4, .pointer (some ⟨b2, 0, none⟩)), (5, .int .i64 x5)] _) a w' hf hh
                clear hf hh
                refine T.seq ?_
                refine T.region ?_
                refine T.pure (.string x4) (by kernel_rfl) (fun _ => by kernel_rfl) ?_
                obtain ⟨s4, hb7, hX1⟩ := Option.bind_eq_some_iff.1 hX1
                refine T.look (.string s4) (by kernel_rfl) (fun w' hh => exec_slice_str_lo rfl rfl rfl (by kernel_rfl) hb7) ?_
                refine T.pure (.string s4) (by kernel_rfl) (fun _ => by kernel_rfl) ?_
                refine T.nil ?_
                refine T.seq ?_
                refine T.seq ?_
                refine T.region ?_
                refine T.pure (.int .i64 x5) (by kernel_rfl) (fun _ => by kernel_rfl) ?_
                refine T.pure (.bool (x5 == 0)) (by kernel_rfl) (fun _ => by kernel_rfl) ?_
                refine T.nil ?_
                refine T.cond (x5 == 0) (by kernel_rfl) (by kernel_rfl) (fun hc3 => ?_) (fun hc3 => ?_)
                ·
                  rw [hc3, cond_true] at hX1
                  refine T.exit ?_
                  cases hX1
                  exact fun a w' hf hh => Exists.intro x1 (Exists.intro (x2 ++ [r5]) (Exists.intro (x3 ++ [r4]) (Exists.intro s4 (And.intro rfl (Exists.intro A1 (Exists.intro c1 (Exists.intro A13 (Exists.intro c13 (Exists.intro A11 (Exists.intro c11 (Exists.intro V7 (And.intro (View.le_trans hV5 hV7) (And.intro (((((Fr.nil hf).pick hf 5 rfl).pick hf 4 rfl).pick hf 2 rfl).pick hf 0 rfl) (hh.sub (.cons_cons _ (.cons_cons _ (.cons_cons _ (.cons_cons _ (.cons_cons _ List.Sublist.slnil)))))))))))))))))))
                ·
                  rw [hc3, cond_false] at hX1
                  refine T.skip_code ?_
                  refine T.seq ?_
                  refine T.region ?_
                  refine T.pure (.string s4) (by kernel_rfl) (fun _ => by kernel_rfl) ?_
                  obtain ⟨r6, hb8, hX1⟩ := Option.bind_eq_some_iff.1 hX1
                  refine T.step (W1.call (vT3 (vAg eElem) (vSc eInt) (vSc eInt)) r6 117 #[.string s4] (by kernel_rfl) (fun _ => by kernel_rfl) (fun w' hh => code_Get_l F s4 r6 hb8 w' ) ?_)
                  intro u V8 hV8 hu
                  obtain rfl := (Sure.t3 sureElem sureInt sureInt) _ _ _ hu
                  refine T.pure (.tuple #[.agg #[.int .i64 r6.1.key.pfs, .int .i64 r6.1.key.obj, .int .i64 r6.1.key.off, .int .i64 r6.1.made, .int .i64 r6.1.gone, .string r6.1.val], .int .i64 r6.2.1, .int .i64 r6.2.2]) (by kernel_rfl) (fun _ => by kernel_rfl) ?_
                  refine T.pure (.agg #[.int .i64 r6.1.key.pfs, .int .i64 r6.1.key.obj, .int .i64 r6.1.key.off, .int .i64 r6.1.made, .int .i64 r6.1.gone, .string r6.1.val]) (by kernel_rfl) (fun _ => by kernel_rfl) ?_
                  refine T.pure (.int .i64 r6.2.1) (by kernel_rfl) (fun _ => by kernel_rfl) ?_
                  refine T.pure (.int .i64 r6.2.2) (by kernel_rfl) (fun _ => by kernel_rfl) ?_
                  refine T.step (W1.new 34 [.int .i64 0, .int .i64 0, .int .i64 0, .int .i64 0, .int .i64 0, .string (ByteArray.mk #[])] (fun b => .pointer (some ⟨b, 0, none⟩)) (by kernel_rfl) (fun _ => by kernel_rfl) (fun b5 => ?_))
                  refine T.step (W1.store 0 [.int .i64 r6.1.key.pfs, .int .i64 r6.1.key.obj, .int .i64 r6.1.key.off, .int .i64 r6.1.made, .int .i64 r6.1.gone, .string r6.1.val] [box b5 34 [.int .i64 r6.1.key.pfs, .int .i64 r6.1.key.obj, .int .i64 r6.1.key.off, .int .i64 r6.1.made, .int .i64 r6.1.gone, .string r6.1.val], row 46 eSpot A1 c1 x1, row 3 eInt A13 c13 (x2 ++ [r5]), row 3 eInt A11 c11 (x3 ++ [r4]), box b2 26 [.int .i64 2, .slice none 0 0, .slice A11 ((x3 ++ [r4]).length) c11, .slice A1 x1.length c1, .slice A13 ((x2 ++ [r5]).length) c13], box b1 26 [.int .i64 0, .slice none 0 0, .slice none 0 0, .slice none 0 0, .slice none 0 0]] (by rfl) rfl (by kernel_rfl) (fun w' hw => exec_store (vs := [.int .i64 r6.1.key.pfs, .int .i64 r6.1.key.obj, .int .i64 r6.1.key.off, .int .i64 r6.1.made, .int .i64 r6.1.gone, .string r6.1.val]) rfl rfl rfl rfl (by kernel_rfl) (one_of rfl) (by simp) rfl hw) ?_)
                  refine T.pure (.int .i64 r6.2.1) (by kernel_rfl) (fun _ => by kernel_rfl) ?_
                  refine T.pure (.int .i64 r6.2.2) (by kernel_rfl) (fun _ => by kernel_rfl) ?_
                  refine T.nil ?_
                  refine T.seq ?_
                  refine T.cut (fun a w' => Fr 68 [(0, .string s4), (2, .pointer (some ⟨b1, 0, none⟩)), (4, .pointer (some ⟨b2, 0, none⟩)), (5, .int .i64 x5), (6, .pointer (some ⟨b5, 0, none⟩)), (7, .int .i64 r6.2.1), (55, .bool ((r6.2.2 != 0) || ((r6.1.gone != 0) || (!(seq r6.1.val (ByteArray.mk #[]))))))] a ∧ Hp w V8 [box b5 34 [.int .i64 r6.1.key.pfs, .int .i64 r6.1.key.obj, .int .i64 r6.1.key.off, .int .i64 r6.1.made, .int .i64 r6.1.gone, .string r6.1.val], row 46 eSpot A1 c1 x1, row 3 eInt A13 c13 (x2 ++ [r5]), row 3 eInt A11 c11 (x3 ++ [r4]), box b2 26 [.int .i64 2, .slice none 0 0, .slice A11 ((x3 ++ [r4]).length) c11, .slice A1 x1.length c1, .slice A13 ((x2 ++ [r5]).length) c13], box b1 26 [.int .i64 0, .slice none 0 0, .slice none 0 0, .slice none 0 0, .slice none 0 0]] w') ?_ ?_
                  ·
                    refine T.region ?_
                    refine T.pure (.int .i64 r6.2.2) (by kernel_rfl) (fun _ => by kernel_rfl) ?_
                    refine T.pure (.bool (r6.2.2 != 0)) (by kernel_rfl) (fun _ => by kernel_rfl) ?_
                    refine T.pure (.bool (r6.2.2 != 0)) (by kernel_rfl) (fun _ => by kernel_rfl) ?_
                    cases hg1 : (r6.2.2 != 0)
                    ·
                      skip
                      refine T.pure (.pointer (some ⟨b5, 4, none⟩)) (by kernel_rfl) (fun _ => by kernel_rfl) ?_
                      refine T.look (.int .i64 r6.1.gone) (by kernel_rfl) (fun w' hh => exec_load1 rfl rfl (by kernel_rfl) (hh.cellBox (i := 0) (by rfl) 4)) ?_
                      refine T.pure (.bool (r6.1.gone != 0)) (by kernel_rfl) (fun _ => by kernel_rfl) ?_
                      refine T.pure (.bool (r6.1.gone != 0)) (by kernel_rfl) (fun _ => by kernel_rfl) ?_
                      refine T.pure (.bool (r6.1.gone != 0)) (by kernel_rfl) (fun _ => by kernel_rfl) ?_
                      cases hg2 : (r6.1.gone != 0)
                      ·
                        skip
                        refine T.pure (.pointer (some ⟨b5, 5, none⟩)) (by kernel_rfl) (fun _ => by kernel_rfl) ?_
                        refine T.look (.string r6.1.val) (by kernel_rfl) (fun w' hh => exec_load1 rfl rfl (by kernel_rfl) (hh.cellBox (i := 0) (by rfl) 5)) ?_
                        refine T.pure (.bool (!(seq r6.1.val (ByteArray.mk #[])))) (by kernel_rfl) (fun _ => by kernel_rfl) ?_
                        refine T.pure (.bool (!(seq r6.1.val (ByteArray.mk #[])))) (by kernel_rfl) (fun _ => by kernel_rfl) ?_
                        refine T.nil ?_
                        exact fun a w' hf hh => And.intro ((((((((Fr.nil hf).pick hf 55 rfl).pick hf 7 rfl).pick hf 6 rfl).pick hf 5 rfl).pick hf 4 rfl).pick hf 2 rfl).pick hf 0 rfl) (hh.sub (.cons_cons _ (.cons_cons _ (.cons_cons _ (.cons_cons _ (.cons_cons _ (.cons_cons _ List.Sublist.slnil)))))))
                      ·
                        skip
                        refine T.pass (by kernel_rfl) (by kernel_rfl) ?_
                        refine T.pass (by kernel_rfl) (by kernel_rfl) ?_
                        refine T.pass (by kernel_rfl) (by kernel_rfl) ?_
                        refine T.pure (.bool true) (by kernel_rfl) (fun _ => by kernel_rfl) ?_
                        refine T.nil ?_
                        exact fun a w' hf hh => And.intro ((((((((Fr.nil hf).pick hf 55 rfl).pick hf 7 rfl).pick hf 6 rfl).pick hf 5 rfl).pick hf 4 rfl).pick hf 2 rfl).pick hf 0 rfl) (hh.sub (.cons_cons _ (.cons_cons _ (.cons_cons _ (.cons_cons _ (.cons_cons _ (.cons_cons _ List.Sublist.slnil)))))))
                    ·
                      skip
                      refine T.pass (by kernel_rfl) (by kernel_rfl) ?_
                      refine T.pass (by kernel_rfl) (by kernel_rfl) ?_
                      refine T.pass (by kernel_rfl) (by kernel_rfl) ?_
                      refine T.pure (.bool true) (by kernel_rfl) (fun _ => by kernel_rfl) ?_
                      refine T.pure (.bool true) (by kernel_rfl) (fun _ => by kernel_rfl) ?_
                      refine T.pass (by kernel_rfl) (by kernel_rfl) ?_
                      refine T.pass (by kernel_rfl) (by kernel_rfl) ?_
                      refine T.pass (by kernel_rfl) (by kernel_rfl) ?_
                      refine T.pure (.bool true) (by kernel_rfl) (fun _ => by kernel_rfl) ?_
                      refine T.nil ?_
                      exact fun a w' hf hh => And.intro ((((((((Fr.nil hf).pick hf 55 rfl).pick hf 7 rfl).pick hf 6 rfl).pick hf 5 rfl).pick hf 4 rfl).pick hf 2 rfl).pick hf 0 rfl) (hh.sub (.cons_cons _ (.cons_cons _ (.cons_cons _ (.cons_cons _ (.cons_cons _ (.cons_cons _ List.Sublist.slnil)))))))
                  ·
                    rintro a w' ⟨hf, hh⟩
                    refine (?_ : T 68 w V8 [box b5 34 [.int .i64 r6.1.key.pfs, .int .i64 r6.1.key.obj, .int .i64 r6.1.key.off, .int .i64 r6.1.made, .int .i64 r6.1.gone, .string r6.1.val], row 46 eSpot A1 c1 x1, row 3 eInt A13 c13 (x2 ++ [r5]), row 3 eInt A11 c11 (x3 ++ [r4]), box b2 26 [.int .i64 2, .slice none 0 0, .slice A11 ((x3 ++ [r4]).length) c11, .slice A1 x1.length c1, .slice A13 ((x2 ++ [r5]).length) c13], box b1 26 [.int .i64 0, .slice none 0 0, .slice none 0 0, .slice none 0 0, .slice none 0 0]] [(0, .string s4), (2, .pointer (some ⟨b1, 0, none⟩)), (4, .pointer (some ⟨b2, 0, none⟩)), (5, .int .i64 x5), (6, .pointer (some ⟨b5, 0, none⟩)), (7, .int .i64 r6.2.1), (55, .bool ((r6.2.2 != 0) || ((r6.1.gone != 0) || (!(seq r6.1.val (ByteArray.mk #[]))))))] _) a w' hf hh
                    clear hf hh
                    refine T.cond ((r6.2.2 != 0) || ((r6.1.gone != 0) || (!(seq r6.1.val (ByteArray.mk #[]))))) (by kernel_rfl) (by kernel_rfl) (fun hc4 => ?_) (fun hc4 => ?_)
                    ·
                      rw [hc4, cond_true] at hX1
                      refine T.seq ?_
                      refine T.region ?_
                      refine T.look (.agg #[.int .i64 2, .slice none 0 0, .slice A11 ((x3 ++ [r4]).length) c11, .slice A1 x1.length c1, .slice A13 ((x2 ++ [r5]).length) c13]) (by kernel_rfl) (fun w' hh => exec_loadN (cs := [.int .i64 2, .slice none 0 0, .slice A11 ((x3 ++ [r4]).length) c11, .slice A1 x1.length c1, .slice A13 ((x2 ++ [r5]).length) c13]) rfl rfl (by kernel_rfl) (by kernel_rfl) (fun j u hj => (hh.box_at (i := 4) (cs := [.int .i64 2, .slice none 0 0, .slice A11 ((x3 ++ [r4]).length) c11, .slice A1 x1.length c1, .slice A13 ((x2 ++ [r5]).length) c13]) (by rfl) 0 j).trans (seg_at (n := 5) rfl hj))) ?_
                      refine T.step (W1.store 5 [.int .i64 2, .slice none 0 0, .slice A11 ((x3 ++ [r4]).length) c11, .slice A1 x1.length c1, .slice A13 ((x2 ++ [r5]).length) c13] [box b5 34 [.int .i64 r6.1.key.pfs, .int .i64 r6.1.key.obj, .int .i64 r6.1.key.off, .int .i64 r6.1.made, .int .i64 r6.1.gone, .string r6.1.val], row 46 eSpot A1 c1 x1, row 3 eInt A13 c13 (x2 ++ [r5]), row 3 eInt A11 c11 (x3 ++ [r4]), box b2 26 [.int .i64 2, .slice none 0 0, .slice A11 ((x3 ++ [r4]).length) c11, .slice A1 x1.length c1, .slice A13 ((x2 ++ [r5]).length) c13], box b1 26 [.int .i64 2, .slice none 0 0, .slice A11 ((x3 ++ [r4]).length) c11, .slice A1 x1.length c1, .slice A13 ((x2 ++ [r5]).length) c13]] (by rfl) rfl (by kernel_rfl) (fun w' hw => exec_store (vs := [.int .i64 2, .slice none 0 0, .slice A11 ((x3 ++ [r4]).length) c11, .slice A1 x1.length c1, .slice A13 ((x2 ++ [r5]).length) c13]) rfl rfl rfl rfl (by kernel_rfl) (one_of rfl) (by simp) rfl hw) ?_)
                      refine T.pure (.bool false) (by kernel_rfl) (fun _ => by kernel_rfl) ?_
                      refine T.nil ?_
                      cases hX1
                      try dsimp only at hY1
                      cases hY1
                      cases (hr1 _ rfl)
                      try dsimp only at hF
                      cases hF
                      refine T.ret rfl ?_
                      exact T.ret2 rfl (ResIs.cellN 5 rfl (by rfl) (fun _ => by kernel_rfl) (fun _ => by kernel_rfl)) (ResIs.tmp rfl) fun w' hh => ⟨_, rfl, hh.below, (vT2.mk (vAg.mk ⟨_, _, _, _, _, _, _, _, rfl, (SlOk.nil _ _), (hh.row_fresh (i := 3) (by rfl) (fun _ h => h)), (hh.row_fresh (i := 1) (by rfl) (fun _ h => h)), (hh.row_fresh (i := 2) (by rfl) (fun _ h => h))⟩) (show _ from rfl))⟩
                    ·
                      rw [hc4, cond_false] at hX1
                      refine T.skip_code ?_
                      refine T.seq ?_
                      obtain ⟨r7, hb9, hX1⟩ := Option.bind_eq_some_iff.1 hX1
                      obtain ⟨y4, hb10, hX1⟩ := Option.bind_eq_some_iff.1 hX1
                      refine T.mid (fun a w' => ∃ (A15 : Option Addr) (c15 : Nat) (V10 : View), View.le V8 V10 ∧ Fr 68 [(0, .string s4), (2, .pointer (some ⟨b1, 0, none⟩)), (4, .pointer (some ⟨b2, 0, none⟩)), (5, .int .i64 x5), (7, .int .i64 r6.2.1)] a ∧ Hp w V10 [row 46 eSpot A15 c15 (x1 ++ [r7]), row 3 eInt A13 c13 (x2 ++ [r5]), row 3 eInt A11 c11 (x3 ++ [r4]), box b2 26 [.int .i64 2, .slice none 0 0, .slice A11 ((x3 ++ [r4]).length) c11, .slice A15 ((x1 ++ [r7]).length) c15, .slice A13 ((x2 ++ [r5]).length) c13], box b1 26 [.int .i64 0, .slice none 0 0, .slice none 0 0, .slice none 0 0, .slice none 0 0]] w') ?_ ?_
                      ·
                        refine T.held [box b5 34 [.int .i64 r6.1.key.pfs, .int .i64 r6.1.key.obj, .int .i64 r6.1.key.off, .int .i64 r6.1.made, .int .i64 r6.1.gone, .string r6.1.val], row 3 eInt A11 c11 (x3 ++ [r4]), box b1 26 [.int .i64 0, .slice none 0 0, .slice none 0 0, .slice none 0 0, .slice none 0 0]] (by kernel_rfl) ?_
                        refine TA.take 0 (.pointer (some ⟨b2, 3, none⟩)) rfl (by kernel_rfl) (by kernel_rfl) (by kernel_rfl) (fun _ _ _ h => h) (Hp.old (View.le_refl _) (View.le_trans (View.le_trans (View.le_trans hV1 hV5) hV7) hV8) (.cons_cons _ (.cons _ (.cons _ (.cons_cons _ (.cons _ (.cons_cons _ List.Sublist.slnil)))))) (OldAll.box (OldAll.row (fun _ _ _ _ h => h) (OldAll.box OldAll.nil)))) (by kernel_rfl) (fun _ _ => by kernel_rfl) ?_
                        refine TA.take 2 (.agg #[.int .i64 r6.1.key.pfs, .int .i64 r6.1.key.obj, .int .i64 r6.1.key.off, .int .i64 r6.1.made, .int .i64 r6.1.gone, .string r6.1.val]) rfl (by kernel_rfl) (by kernel_rfl) (by kernel_rfl) (fun _ _ _ h => h) (Hp.old (View.le_refl _) (View.le_trans (View.le_trans (View.le_trans hV1 hV5) hV7) hV8) (.cons_cons _ (.cons _ (.cons _ (.cons_cons _ (.cons _ (.cons_cons _ List.Sublist.slnil)))))) (OldAll.box (OldAll.row (fun _ _ _ _ h => h) (OldAll.box OldAll.nil)))) (by kernel_rfl) (fun w' hh => exec_loadN (cs := [.int .i64 r6.1.key.pfs, .int .i64 r6.1.key.obj, .int .i64 r6.1.key.off, .int .i64 r6.1.made, .int .i64 r6.1.gone, .string r6.1.val]) rfl rfl (by kernel_rfl) (by kernel_rfl) (fun j u hj => (hh.box_at (i := 0) (cs := [.int .i64 r6.1.key.pfs, .int .i64 r6.1.key.obj, .int .i64 r6.1.key.off, .int .i64 r6.1.made, .int .i64 r6.1.gone, .string r6.1.val]) (by rfl) 0 j).trans (seg_at (n := 6) rfl hj))) ?_
                        refine TA.all [1, 3] (by kernel_rfl) rfl ⟨?_, ?_, trivial⟩
                        ·
                          refine TA.br rfl (W1.look (.slice A1 x1.length c1) (by kernel_rfl) (fun w' hh => exec_load1 rfl rfl (by kernel_rfl) (hh.cellBox (i := 4) (by rfl) 3)) ?_)
                          refine TA.on (Hp.old (View.le_refl _) (View.le_trans (View.le_trans (View.le_trans hV1 hV5) hV7) hV8) (.cons_cons _ (.cons _ (.cons _ (.cons_cons _ (.cons _ (.cons_cons _ List.Sublist.slnil)))))) (OldAll.box (OldAll.row (fun _ _ _ _ h => h) (OldAll.box OldAll.nil)))) ?_
                          refine TA.all [3] (by kernel_rfl) rfl ⟨?_, trivial⟩
                          refine TA.br rfl (W1.call (vAg eSpot) r7 68 #[.agg #[.int .i64 r6.1.key.pfs, .int .i64 r6.1.key.obj, .int .i64 r6.1.key.off, .int .i64 r6.1.made, .int .i64 r6.1.gone, .string r6.1.val]] (by kernel_rfl) (fun _ => by kernel_rfl) (fun w' hh => elem_Spot_l r6.1 r7 hb9 w' ) ?_)
                          intro u V9 hV9 hu
                          obtain rfl := sureSpot _ _ _ hu
                          refine TA.on (Hp.old hV9 (View.le_trans (View.le_trans (View.le_trans hV1 hV5) hV7) hV8) (.cons_cons _ (.cons _ (.cons _ (.cons_cons _ (.cons _ (.cons_cons _ List.Sublist.slnil)))))) (OldAll.box (OldAll.row (fun _ _ _ _ h => h) (OldAll.box OldAll.nil)))) ?_
                          refine TA.all [4] (by kernel_rfl) rfl ⟨?_, trivial⟩
                          refine TA.br rfl (W1.new 46 [.int .i64 r7.key.pfs, .int .i64 r7.key.obj, .int .i64 r7.key.off, .int .i64 r7.made] (fun b => .slice (some ⟨b, 0, none⟩) 1 1) (by kernel_rfl) (fun _ => by kernel_rfl) (fun b6 => ?_))
                          refine TA.on (Hp.old hV9 (View.le_trans (View.le_trans (View.le_trans hV1 hV5) hV7) hV8) (.cons _ (.cons_cons _ (.cons _ (.cons _ (.cons_cons _ (.cons _ (.cons_cons _ List.Sublist.slnil))))))) (OldAll.box (OldAll.row (fun _ _ _ _ h => h) (OldAll.box OldAll.nil)))) ?_
                          refine TA.all [5] (by kernel_rfl) rfl ⟨?_, trivial⟩
                          obtain ⟨hb10_r, hb10_m, rfl⟩ := grow_some hb10
                          obtain ⟨ti, hti, hz1, hz2, hz3⟩ := info_parts (P := Try.prog) (e := 46) (z := .agg #[.int .i64 0, .int .i64 0, .int .i64 0, .int .i64 0]) (size := 4) (bytes := 32) (by kernel_rfl)
                          refine TA.br rfl (W1.append (E := eSpot) (l := x1) (m := [r7]) 2 _ _ 32 ti _ (by rfl) (by kernel_rfl) rfl (by kernel_rfl) hti hz1 hz2 hz3 rfl (by decide) rfl rfl (fun w' hh => (SlOk.srcF (slok_lit (E := eSpot) (f := DSpot.cells) [r7] (fun _ _ => rfl) (Nat.le_of_ble_eq_true (by rfl)) (fun j => hh.cellBox (i := 0) (by rfl) j)) (fun _ _ _ _ h => h))) hb10_r hb10_m (fun A14 c14 => ?_))
                          refine TA.on (Hp.old hV9 (View.le_trans (View.le_trans (View.le_trans hV1 hV5) hV7) hV8) (.cons _ (.cons_cons _ (.cons _ (.cons _ (.cons_cons _ (.cons _ (.cons_cons _ List.Sublist.slnil))))))) (OldAll.box (OldAll.row (fun _ _ _ _ h => h) (OldAll.box OldAll.nil)))) ?_
                          refine TA.take 6 (.pointer (some ⟨b2, 3, none⟩)) rfl (by kernel_rfl) (by kernel_rfl) (by kernel_rfl) (fun _ _ _ h => h) (Hp.old hV9 (View.le_trans (View.le_trans (View.le_trans hV1 hV5) hV7) hV8) (.cons _ (.cons_cons _ (.cons _ (.cons _ (.cons_cons _ (.cons _ (.cons_cons _ List.Sublist.slnil))))))) (OldAll.box (OldAll.row (fun _ _ _ _ h => h) (OldAll.box OldAll.nil)))) (by kernel_rfl) (fun _ _ => by kernel_rfl) ?_
                          refine TA.all [7] (by kernel_rfl) rfl ⟨?_, trivial⟩
                          refine TA.br rfl (W1.store 5 [.int .i64 2, .slice none 0 0, .slice A11 ((x3 ++ [r4]).length) c11, .slice A14 ((x1 ++ [r7]).length) c14, .slice A13 ((x2 ++ [r5]).length) c13] [box b6 46 [.int .i64 r7.key.pfs, .int .i64 r7.key.obj, .int .i64 r7.key.off, .int .i64 r7.made], box b5 34 [.int .i64 r6.1.key.pfs, .int .i64 r6.1.key.obj, .int .i64 r6.1.key.off, .int .i64 r6.1.made, .int .i64 r6.1.gone, .string r6.1.val], row 46 eSpot A14 c14 (x1 ++ [r7]), row 3 eInt A13 c13 (x2 ++ [r5]), row 3 eInt A11 c11 (x3 ++ [r4]), box b2 26 [.int .i64 2, .slice none 0 0, .slice A11 ((x3 ++ [r4]).length) c11, .slice A14 ((x1 ++ [r7]).length) c14, .slice A13 ((x2 ++ [r5]).length) c13], box b1 26 [.int .i64 0, .slice none 0 0, .slice none 0 0, .slice none 0 0, .slice none 0 0]] (by rfl) rfl (by kernel_rfl) (fun w' hw => exec_store (vs := [.slice A14 ((x1 ++ [r7]).length) c14]) rfl rfl rfl rfl (by kernel_rfl) (one_of rfl) (by simp) rfl hw) ?_)
                          refine TA.on (Hp.old hV9 (View.le_trans (View.le_trans (View.le_trans hV1 hV5) hV7) hV8) (.cons _ (.cons_cons _ (.cons _ (.cons _ (.cons_cons _ (.cons _ (.cons_cons _ List.Sublist.slnil))))))) (OldAll.box (OldAll.row (fun _ _ _ _ h => h) (OldAll.box OldAll.nil)))) ?_
                          refine TA.done (by kernel_rfl) ?_
                          exact fun a w' hf hh => Exists.intro A14 (Exists.intro c14 (Exists.intro V9 (And.intro hV9 (And.intro ((((((Fr.nil hf).pick hf 7 rfl).pick hf 5 rfl).pick hf 4 rfl).pick hf 2 rfl).pick hf 0 rfl) (hh.sub (.cons _ (.cons _ (.cons_cons _ (.cons_cons _ (.cons_cons _ (.cons_cons _ (.cons_cons _ List.Sublist.slnil))))))))))))
                        ·
                          refine TA.br rfl (W1.call (vAg eSpot) r7 68 #[.agg #[.int .i64 r6.1.key.pfs, .int .i64 r6.1.key.obj, .int .i64 r6.1.key.off, .int .i64 r6.1.made, .int .i64 r6.1.gone, .string r6.1.val]] (by kernel_rfl) (fun _ => by kernel_rfl) (fun w' hh => elem_Spot_l r6.1 r7 hb9 w' ) ?_)
                          intro u V9 hV9 hu
                          obtain rfl := sureSpot _ _ _ hu
                          refine TA.on (Hp.old hV9 (View.le_trans (View.le_trans (View.le_trans hV1 hV5) hV7) hV8) (.cons_cons _ (.cons _ (.cons _ (.cons_cons _ (.cons _ (.cons_cons _ List.Sublist.slnil)))))) (OldAll.box (OldAll.row (fun _ _ _ _ h => h) (OldAll.box OldAll.nil)))) ?_
                          refine TA.all [1, 4] (by kernel_rfl) rfl ⟨?_, ?_, trivial⟩
                          ·
                            refine TA.br rfl (W1.look (.slice A1 x1.length c1) (by kernel_rfl) (fun w' hh => exec_load1 rfl rfl (by kernel_rfl) (hh.cellBox (i := 4) (by rfl) 3)) ?_)
                            refine TA.on (Hp.old hV9 (View.le_trans (View.le_trans (View.le_trans hV1 hV5) hV7) hV8) (.cons_cons _ (.cons _ (.cons _ (.cons_cons _ (.cons _ (.cons_cons _ List.Sublist.slnil)))))) (OldAll.box (OldAll.row (fun _ _ _ _ h => h) (OldAll.box OldAll.nil)))) ?_
                            refine TA.all [4] (by kernel_rfl) rfl ⟨?_, trivial⟩
                            refine TA.br rfl (W1.new 46 [.int .i64 r7.key.pfs, .int .i64 r7.key.obj, .int .i64 r7.key.off, .int .i64 r7.made] (fun b => .slice (some ⟨b, 0, none⟩) 1 1) (by kernel_rfl) (fun _ => by kernel_rfl) (fun b6 => ?_))
                            refine TA.on (Hp.old hV9 (View.le_trans (View.le_trans (View.le_trans hV1 hV5) hV7) hV8) (.cons _ (.cons_cons _ (.cons _ (.cons _ (.cons_cons _ (.cons _ (.cons_cons _ List.Sublist.slnil))))))) (OldAll.box (OldAll.row (fun _ _ _ _ h => h) (OldAll.box OldAll.nil)))) ?_
                            refine TA.all [5] (by kernel_rfl) rfl ⟨?_, trivial⟩
                            obtain ⟨hb10_r, hb10_m, rfl⟩ := grow_some hb10
                            obtain ⟨ti, hti, hz1, hz2, hz3⟩ := info_parts (P := Try.prog) (e := 46) (z := .agg #[.int .i64 0, .int .i64 0, .int .i64 0, .int .i64 0]) (size := 4) (bytes := 32) (by kernel_rfl)
                            refine TA.br rfl (W1.append (E := eSpot) (l := x1) (m := [r7]) 2 _ _ 32 ti _ (by rfl) (by kernel_rfl) rfl (by kernel_rfl) hti hz1 hz2 hz3 rfl (by decide) rfl rfl (fun w' hh => (SlOk.srcF (slok_lit (E := eSpot) (f := DSpot.cells) [r7] (fun _ _ => rfl) (Nat.le_of_ble_eq_true (by rfl)) (fun j => hh.cellBox (i := 0) (by rfl) j)) (fun _ _ _ _ h => h))) hb10_r hb10_m (fun A14 c14 => ?_))
                            refine TA.on (Hp.old hV9 (View.le_trans (View.le_trans (View.le_trans hV1 hV5) hV7) hV8) (.cons _ (.cons_cons _ (.cons _ (.cons _ (.cons_cons _ (.cons _ (.cons_cons _ List.Sublist.slnil))))))) (OldAll.box (OldAll.row (fun _ _ _ _ h => h) (OldAll.box OldAll.nil)))) ?_
                            refine TA.take 6 (.pointer (some ⟨b2, 3, none⟩)) rfl (by kernel_rfl) (by kernel_rfl) (by kernel_rfl) (fun _ _ _ h => h) (Hp.old hV9 (View.le_trans (View.le_trans (View.le_trans hV1 hV5) hV7) hV8) (.cons _ (.cons_cons _ (.cons _ (.cons _ (.cons_cons _ (.cons _ (.cons_cons _ List.Sublist.slnil))))))) (OldAll.box (OldAll.row (fun _ _ _ _ h => h) (OldAll.box OldAll.nil)))) (by kernel_rfl) (fun _ _ => by kernel_rfl) ?_
                            refine TA.all [7] (by kernel_rfl) rfl ⟨?_, trivial⟩
                            refine TA.br rfl (W1.store 5 [.int .i64 2, .slice none 0 0, .slice A11 ((x3 ++ [r4]).length) c11, .slice A14 ((x1 ++ [r7]).length) c14, .slice A13 ((x2 ++ [r5]).length) c13] [box b6 46 [.int .i64 r7.key.pfs, .int .i64 r7.key.obj, .int .i64 r7.key.off, .int .i64 r7.made], box b5 34 [.int .i64 r6.1.key.pfs, .int .i64 r6.1.key.obj, .int .i64 r6.1.key.off, .int .i64 r6.1.made, .int .i64 r6.1.gone, .string r6.1.val], row 46 eSpot A14 c14 (x1 ++ [r7]), row 3 eInt A13 c13 (x2 ++ [r5]), row 3 eInt A11 c11 (x3 ++ [r4]), box b2 26 [.int .i64 2, .slice none 0 0, .slice A11 ((x3 ++ [r4]).length) c11, .slice A14 ((x1 ++ [r7]).length) c14, .slice A13 ((x2 ++ [r5]).length) c13], box b1 26 [.int .i64 0, .slice none 0 0, .slice none 0 0, .slice none 0 0, .slice none 0 0]] (by rfl) rfl (by kernel_rfl) (fun w' hw => exec_store (vs := [.slice A14 ((x1 ++ [r7]).length) c14]) rfl rfl rfl rfl (by kernel_rfl) (one_of rfl) (by simp) rfl hw) ?_)
                            refine TA.on (Hp.old hV9 (View.le_trans (View.le_trans (View.le_trans hV1 hV5) hV7) hV8) (.cons _ (.cons_cons _ (.cons _ (.cons _ (.cons_cons _ (.cons _ (.cons_cons _ List.Sublist.slnil))))))) (OldAll.box (OldAll.row (fun _ _ _ _ h => h) (OldAll.box OldAll.nil)))) ?_
                            refine TA.done (by kernel_rfl) ?_
                            exact fun a w' hf hh => Exists.intro A14 (Exists.intro c14 (Exists.intro V9 (And.intro hV9 (And.intro ((((((Fr.nil hf).pick hf 7 rfl).pick hf 5 rfl).pick hf 4 rfl).pick hf 2 rfl).pick hf 0 rfl) (hh.sub (.cons _ (.cons _ (.cons_cons _ (.cons_cons _ (.cons_cons _ (.cons_cons _ (.cons_cons _ List.Sublist.slnil))))))))))))
                          ·
                            refine TA.br rfl (W1.new 46 [.int .i64 r7.key.pfs, .int .i64 r7.key.obj, .int .i64 r7.key.off, .int .i64 r7.made] (fun b => .slice (some ⟨b, 0, none⟩) 1 1) (by kernel_rfl) (fun _ => by kernel_rfl) (fun b6 => ?_))
                            refine TA.on (Hp.old hV9 (View.le_trans (View.le_trans (View.le_trans hV1 hV5) hV7) hV8) (.cons _ (.cons_cons _ (.cons _ (.cons _ (.cons_cons _ (.cons _ (.cons_cons _ List.Sublist.slnil))))))) (OldAll.box (OldAll.row (fun _ _ _ _ h => h) (OldAll.box OldAll.nil)))) ?_
                            refine TA.all [1] (by kernel_rfl) rfl ⟨?_, trivial⟩
                            refine TA.br rfl (W1.look (.slice A1 x1.length c1) (by kernel_rfl) (fun w' hh => exec_load1 rfl rfl (by kernel_rfl) (hh.cellBox (i := 5) (by rfl) 3)) ?_)
                            refine TA.on (Hp.old hV9 (View.le_trans (View.le_trans (View.le_trans hV1 hV5) hV7) hV8) (.cons _ (.cons_cons _ (.cons _ (.cons _ (.cons_cons _ (.cons _ (.cons_cons _ List.Sublist.slnil))))))) (OldAll.box (OldAll.row (fun _ _ _ _ h => h) (OldAll.box OldAll.nil)))) ?_
                            refine TA.all [5] (by kernel_rfl) rfl ⟨?_, trivial⟩
                            obtain ⟨hb10_r, hb10_m, rfl⟩ := grow_some hb10
                            obtain ⟨ti, hti, hz1, hz2, hz3⟩ := info_parts (P := Try.prog) (e := 46) (z := .agg #[.int .i64 0, .int .i64 0, .int .i64 0, .int .i64 0]) (size := 4) (bytes := 32) (by kernel_rfl)
                            refine TA.br rfl (W1.append (E := eSpot) (l := x1) (m := [r7]) 2 _ _ 32 ti _ (by rfl) (by kernel_rfl) rfl (by kernel_rfl) hti hz1 hz2 hz3 rfl (by decide) rfl rfl (fun w' hh => (SlOk.srcF (slok_lit (E := eSpot) (f := DSpot.cells) [r7] (fun _ _ => rfl) (Nat.le_of_ble_eq_true (by rfl)) (fun j => hh.cellBox (i := 0) (by rfl) j)) (fun _ _ _ _ h => h))) hb10_r hb10_m (fun A14 c14 => ?_))
                            refine TA.on (Hp.old hV9 (View.le_trans (View.le_trans (View.le_trans hV1 hV5) hV7) hV8) (.cons _ (.cons_cons _ (.cons _ (.cons _ (.cons_cons _ (.cons _ (.cons_cons _ List.Sublist.slnil))))))) (OldAll.box (OldAll.row (fun _ _ _ _ h => h) (OldAll.box OldAll.nil)))) ?_
                            refine TA.take 6 (.pointer (some ⟨b2, 3, none⟩)) rfl (by kernel_rfl) (by kernel_rfl) (by kernel_rfl) (fun _ _ _ h => h) (Hp.old hV9 (View.le_trans (View.le_trans (View.le_trans hV1 hV5) hV7) hV8) (.cons _ (.cons_cons _ (.cons _ (.cons _ (.cons_cons _ (.cons _ (.cons_cons _ List.Sublist.slnil))))))) (OldAll.box (OldAll.row (fun _ _ _ _ h => h) (OldAll.box OldAll.nil)))) (by kernel_rfl) (fun _ _ => by kernel_rfl) ?_
                            refine TA.all [7] (by kernel_rfl) rfl ⟨?_, trivial⟩
                            refine TA.br rfl (W1.store 5 [.int .i64 2, .slice none 0 0, .slice A11 ((x3 ++ [r4]).length) c11, .slice A14 ((x1 ++ [r7]).length) c14, .slice A13 ((x2 ++ [r5]).length) c13] [box b6 46 [.int .i64 r7.key.pfs, .int .i64 r7.key.obj, .int .i64 r7.key.off, .int .i64 r7.made], box b5 34 [.int .i64 r6.1.key.pfs, .int .i64 r6.1.key.obj, .int .i64 r6.1.key.off, .int .i64 r6.1.made, .int .i64 r6.1.gone, .string r6.1.val], row 46 eSpot A14 c14 (x1 ++ [r7]), row 3 eInt A13 c13 (x2 ++ [r5]), row 3 eInt A11 c11 (x3 ++ [r4]), box b2 26 [.int .i64 2, .slice none 0 0, .slice A11 ((x3 ++ [r4]).length) c11, .slice A14 ((x1 ++ [r7]).length) c14, .slice A13 ((x2 ++ [r5]).length) c13], box b1 26 [.int .i64 0, .slice none 0 0, .slice none 0 0, .slice none 0 0, .slice none 0 0]] (by rfl) rfl (by kernel_rfl) (fun w' hw => exec_store (vs := [.slice A14 ((x1 ++ [r7]).length) c14]) rfl rfl rfl rfl (by kernel_rfl) (one_of rfl) (by simp) rfl hw) ?_)
                            refine TA.on (Hp.old hV9 (View.le_trans (View.le_trans (View.le_trans hV1 hV5) hV7) hV8) (.cons _ (.cons_cons _ (.cons _ (.cons _ (.cons_cons _ (.cons _ (.cons_cons _ List.Sublist.slnil))))))) (OldAll.box (OldAll.row (fun _ _ _ _ h => h) (OldAll.box OldAll.nil)))) ?_
                            refine TA.done (by kernel_rfl) ?_
                            exact fun a w' hf hh => Exists.intro A14 (Exists.intro c14 (Exists.intro V9 (And.intro hV9 (And.intro ((((((Fr.nil hf).pick hf 7 rfl).pick hf 5 rfl).pick hf 4 rfl).pick hf 2 rfl).pick hf 0 rfl) (hh.sub (.cons _ (.cons _ (.cons_cons _ (.cons_cons _ (.cons_cons _ (.cons_cons _ (.cons_cons _ List.Sublist.slnil))))))))))))
                      ·
                        rintro a w' ⟨A15, c15, V10, hV10, hf, hh⟩
                        refine (?_ : T 68 w V10 [row 46 eSpot A15 c15 (x1 ++ [r7]), row 3 eInt A13 c13 (x2 ++ [r5]), row 3 eInt A11 c11 (x3 ++ [r4]), box b2 26 [.int .i64 2, .slice none 0 0, .slice A11 ((x3 ++ [r4]).length) c11, .slice A15 ((x1 ++ [r7]).length) c15, .slice A13 ((x2 ++ [r5]).length) c13], box b1 26 [.int .i64 0, .slice none 0 0, .slice none 0 0, .slice none 0 0, .slice none 0 0]] [(0, .string s4), (2, .pointer (some ⟨b1, 0, none⟩)), (4, .pointer (some ⟨b2, 0, none⟩)), (5, .int .i64 x5), (7, .int .i64 r6.2.1)] _) a w' hf hh
                        clear hf hh
                        refine T.region ?_
                        refine T.pure (.string s4) (by kernel_rfl) (fun _ => by kernel_rfl) ?_
                        refine T.pure (.int .i64 r6.2.1) (by kernel_rfl) (fun _ => by kernel_rfl) ?_
                        obtain ⟨s5, hb11, hX1⟩ := Option.bind_eq_some_iff.1 hX1
                        refine T.look (.string s5) (by kernel_rfl) (fun w' hh => exec_slice_str_lo rfl rfl rfl (by kernel_rfl) hb11) ?_
                        refine T.pure (.string s5) (by kernel_rfl) (fun _ => by kernel_rfl) ?_
                        refine T.nil ?_
                        cases hX1
                        exact fun a w' hf hh => Exists.intro (x1 ++ [r7]) (Exists.intro (x2 ++ [r5]) (Exists.intro (x3 ++ [r4]) (Exists.intro s5 (And.intro rfl (Exists.intro A15 (Exists.intro c15 (Exists.intro A13 (Exists.intro c13 (Exists.intro A11 (Exists.intro c11 (Exists.intro V10 (And.intro (View.le_trans (View.le_trans (View.le_trans hV5 hV7) hV8) hV10) (And.intro (((((Fr.nil hf).pick hf 5 rfl).pick hf 4 rfl).pick hf 2 rfl).pick hf 0 rfl) (hh.sub (.cons_cons _ (.cons_cons _ (.cons_cons _ (.cons_cons _ (.cons_cons _ List.Sublist.slnil)))))))))))))))))))
        ·
          rintro a w' ⟨z4, z5, z6, z7, rfl, A7, c7, A8, c8, A9, c9, V3, hV3, hf, hh⟩
          try dsimp only at hY1
          refine (?_ : T 68 w V3 [row 46 eSpot A7 c7 z4, row 3 eInt A8 c8 z5, row 3 eInt A9 c9 z6, box b2 26 [.int .i64 2, .slice none 0 0, .slice A9 z6.length c9, .slice A7 z4.length c7, .slice A8 z5.length c8], box b1 26 [.int .i64 0, .slice none 0 0, .slice none 0 0, .slice none 0 0, .slice none 0 0]] [(0, .string z7), (2, .pointer (some ⟨b1, 0, none⟩)), (4, .pointer (some ⟨b2, 0, none⟩)), (5, .int .i64 x5)] _) a w' hf hh
          clear hf hh
          refine T.region ?_
          refine T.pure (.int .i64 x5) (by kernel_rfl) (fun _ => by kernel_rfl) ?_
          refine T.pure (.int .i64 (IntKind.i64.wrap (x5 + 1))) (by kernel_rfl) (fun _ => by kernel_rfl) ?_
          refine T.pure (.int .i64 (IntKind.i64.wrap (x5 + 1))) (by kernel_rfl) (fun _ => by kernel_rfl) ?_
          refine T.nil ?_
          cases hY1
          exact fun a w' hf hh => Exists.intro (z4, z5, z6, z7, IntKind.i64.wrap (x5 + 1)) (And.intro rfl (Exists.intro z4 (Exists.intro z5 (Exists.intro z6 (Exists.intro z7 (Exists.intro (IntKind.i64.wrap (x5 + 1)) (And.intro rfl (Exists.intro A7 (Exists.intro c7 (Exists.intro A8 (Exists.intro c8 (Exists.intro A9 (Exists.intro c9 (Exists.intro V3 (And.intro (View.le_trans hV1 hV3) (And.intro (((((Fr.nil hf).pick hf 5 rfl).pick hf 4 rfl).pick hf 2 rfl).pick hf 0 rfl) (hh.sub (.cons_cons _ (.cons_cons _ (.cons_cons _ (.cons_cons _ (.cons_cons _ List.Sublist.slnil))))))))))))))))))))))
      ·
        rw [hc1, cond_false] at hY1
        refine T.exit ?_
        cases hY1
        cases (hr1 _ rfl)
        exact fun a w' hf hh => Exists.intro x1 (Exists.intro x2 (Exists.intro x3 (And.intro rfl (Exists.intro A1 (Exists.intro c1 (Exists.intro A2 (Exists.intro c2 (Exists.intro A3 (Exists.intro c3 (Exists.intro V1 (And.intro hV1 (And.intro (((Fr.nil hf).pick hf 4 rfl).pick hf 2 rfl) (hh.sub (.cons_cons _ (.cons_cons _ (.cons_cons _ (.cons_cons _ (.cons_cons _ List.Sublist.slnil))))))))))))))))))
  ·
    rintro a w' ⟨z1, z2, z3, rfl, A4, c4, A5, c5, A6, c6, V2, hV2, hf, hh⟩
    try dsimp only at hF
    refine (?_ : T 68 w V2 [row 46 eSpot A4 c4 z1, row 3 eInt A5 c5 z2, row 3 eInt A6 c6 z3, box b2 26 [.int .i64 2, .slice none 0 0, .slice A6 z3.length c6, .slice A4 z1.length c4, .slice A5 z2.length c5], box b1 26 [.int .i64 0, .slice none 0 0, .slice none 0 0, .slice none 0 0, .slice none 0 0]] [(2, .pointer (some ⟨b1, 0, none⟩)), (4, .pointer (some ⟨b2, 0, none⟩))] _) a w' hf hh
    clear hf hh
    refine T.seq ?_
    refine T.region ?_
    refine T.look (.agg #[.int .i64 2, .slice none 0 0, .slice A6 z3.length c6, .slice A4 z1.length c4, .slice A5 z2.length c5]) (by kernel_rfl) (fun w' hh => exec_loadN (cs := [.int .i64 2, .slice none 0 0, .slice A6 z3.length c6, .slice A4 z1.length c4, .slice A5 z2.length c5]) rfl rfl (by kernel_rfl) (by kernel_rfl) (fun j u hj => (hh.box_at (i := 3) (cs := [.int .i64 2, .slice none 0 0, .slice A6 z3.length c6, .slice A4 z1.length c4, .slice A5 z2.length c5]) (by rfl) 0 j).trans (seg_at (n := 5) rfl hj))) ?_
    refine T.step (W1.store 4 [.int .i64 2, .slice none 0 0, .slice A6 z3.length c6, .slice A4 z1.length c4, .slice A5 z2.length c5] [row 46 eSpot A4 c4 z1, row 3 eInt A5 c5 z2, row 3 eInt A6 c6 z3, box b2 26 [.int .i64 2, .slice none 0 0, .slice A6 z3.length c6, .slice A4 z1.length c4, .slice A5 z2.length c5], box b1 26 [.int .i64 2, .slice none 0 0, .slice A6 z3.length c6, .slice A4 z1.length c4, .slice A5 z2.length c5]] (by rfl) rfl (by kernel_rfl) (fun w' hw => exec_store (vs := [.int .i64 2, .slice none 0 0, .slice A6 z3.length c6, .slice A4 z1.length c4, .slice A5 z2.length c5]) rfl rfl rfl rfl (by kernel_rfl) (one_of rfl) (by simp) rfl hw) ?_)
    refine T.pure (.bool true) (by kernel_rfl) (fun _ => by kernel_rfl) ?_
    refine T.nil ?_
    cases hF
    refine T.ret rfl ?_
    exact T.ret2 rfl (ResIs.cellN 4 rfl (by rfl) (fun _ => by kernel_rfl) (fun _ => by kernel_rfl)) (ResIs.tmp rfl) fun w' hh => ⟨_, rfl, hh.below, (vT2.mk (vAg.mk ⟨_, _, _, _, _, _, _, _, rfl, (SlOk.nil _ _), (hh.row_fresh (i := 2) (by rfl) (fun _ h => h)), (hh.row_fresh (i := 0) (by rfl) (fun _ h => h)), (hh.row_fresh (i := 1) (by rfl) (fun _ h => h))⟩) (show _ from rfl))⟩

set_option maxRecDepth 100000 in
set_option maxHeartbeats 4000000 in
theorem page_Read_l (F : Nat) (p0 : ByteArray) (r : DNode × Int) (hF : page_Read F p0 = some r) (w : World)  :
    Calls Try.prog 49 #[.string p0] w (Post (vT2 (vAg eNode) (vSc eInt)) r w) := by
  unfold page_Read at hF
  refine T.start (l := [.string p0]) Try.func49 rfl rfl rfl ?_
  refine T.seq ?_
  refine T.region ?_
  refine T.step (W1.new 26 [.int .i64 0, .slice none 0 0, .slice none 0 0, .slice none 0 0, .slice none 0 0] (fun b => .pointer (some ⟨b, 0, none⟩)) (by kernel_rfl) (fun _ => by kernel_rfl) (fun b1 => ?_))
  refine T.pure (.int .i64 0) (by kernel_rfl) (fun _ => by kernel_rfl) ?_
  refine T.nil ?_
  refine T.seq ?_
  refine T.region ?_
  refine T.pure (.string p0) (by kernel_rfl) (fun _ => by kernel_rfl) ?_
  obtain ⟨r1, hb1, hF⟩ := Option.bind_eq_some_iff.1 hF
  refine T.step (W1.call (vT3 (vAg eFrame) (vSc eInt) (vSc eInt)) r1 72 #[.string p0] (by kernel_rfl) (fun _ => by kernel_rfl) (fun w' hh => frame_Get_l F p0 r1 hb1 w' ) ?_)
  intro u V1 hV1 hu
  obtain rfl := (Sure.t3 sureFrame sureInt sureInt) _ _ _ hu
  refine T.pure (.tuple #[.agg #[.int .i64 r1.1.kind, .string r1.1.body], .int .i64 r1.2.1, .int .i64 r1.2.2]) (by kernel_rfl) (fun _ => by kernel_rfl) ?_
  refine T.pure (.agg #[.int .i64 r1.1.kind, .string r1.1.body]) (by kernel_rfl) (fun _ => by kernel_rfl) ?_
  refine T.pure (.int .i64 r1.2.1) (by kernel_rfl) (fun _ => by kernel_rfl) ?_
  refine T.pure (.int .i64 r1.2.2) (by kernel_rfl) (fun _ => by kernel_rfl) ?_
  refine T.step (W1.new 122 [.int .i64 0, .string (ByteArray.mk #[])] (fun b => .pointer (some ⟨b, 0, none⟩)) (by kernel_rfl) (fun _ => by kernel_rfl) (fun b2 => ?_))
  refine T.step (W1.store 0 [.int .i64 r1.1.kind, .string r1.1.body] [box b2 122 [.int .i64 r1.1.kind, .string r1.1.body], box b1 26 [.int .i64 0, .slice none 0 0, .slice none 0 0, .slice none 0 0, .slice none 0 0]] (by rfl) rfl (by kernel_rfl) (fun w' hw => exec_store (vs := [.int .i64 r1.1.kind, .string r1.1.body]) rfl rfl rfl rfl (by kernel_rfl) (one_of rfl) (by simp) rfl hw) ?_)
  refine T.pure (.int .i64 r1.2.1) (by kernel_rfl) (fun _ => by kernel_rfl) ?_
  refine T.pure (.int .i64 r1.2.2) (by kernel_rfl) (fun _ => by kernel_rfl) ?_
  refine T.nil ?_
  refine T.seq ?_
  refine T.seq ?_
  refine T.region ?_
  refine T.pure (.int .i64 r1.2.2) (by kernel_rfl) (fun _ => by kernel_rfl) ?_
  refine T.pure (.bool (r1.2.2 != 0)) (by kernel_rfl) (fun _ => by kernel_rfl) ?_
  refine T.nil ?_
  refine T.cond (r1.2.2 != 0) (by kernel_rfl) (by kernel_rfl) (fun hc1 => ?_) (fun hc1 => ?_)
  ·
    rw [hc1, cond_true] at hF
    refine T.seq ?_
    refine T.region ?_
    refine T.pure (.agg #[.int .i64 0, .slice none 0 0, .slice none 0 0, .slice none 0 0, .slice none 0 0]) (by kernel_rfl) (fun _ => by kernel_rfl) ?_
    refine T.pure (.int .i64 r1.2.2) (by kernel_rfl) (fun _ => by kernel_rfl) ?_
    refine T.step (W1.store 1 [.int .i64 0, .slice none 0 0, .slice none 0 0, .slice none 0 0, .slice none 0 0] [box b2 122 [.int .i64 r1.1.kind, .string r1.1.body], box b1 26 [.int .i64 0, .slice none 0 0, .slice none 0 0, .slice none 0 0, .slice none 0 0]] (by rfl) rfl (by kernel_rfl) (fun w' hw => exec_store (vs := [.int .i64 0, .slice none 0 0, .slice none 0 0, .slice none 0 0, .slice none 0 0]) rfl rfl rfl rfl (by kernel_rfl) (one_of rfl) (by simp) rfl hw) ?_)
    refine T.pure (.int .i64 r1.2.2) (by kernel_rfl) (fun _ => by kernel_rfl) ?_
    refine T.nil ?_
    cases hF
    refine T.ret rfl ?_
    exact T.ret2 rfl (ResIs.cellN 1 rfl (by rfl) (fun _ => by kernel_rfl) (fun _ => by kernel_rfl)) (ResIs.tmp rfl) fun w' hh => ⟨_, rfl, hh.below, (vT2.mk (vAg.mk ⟨_, _, _, _, _, _, _, _, rfl, (SlOk.nil _ _), (SlOk.nil _ _), (SlOk.nil _ _), (SlOk.nil _ _)⟩) (show _ from rfl))⟩
  ·
    rw [hc1, cond_false] at hF
    refine T.skip_code ?_
    refine T.seq ?_
    refine T.seq ?_
    refine T.region ?_
    refine T.pure (.int .i64 r1.2.1) (by kernel_rfl) (fun _ => by kernel_rfl) ?_
    refine T.pure (.string p0) (by kernel_rfl) (fun _ => by kernel_rfl) ?_
    refine T.pure (.int .i64 (p0.size : Int)) (by kernel_rfl) (fun _ => by kernel_rfl) ?_
    refine T.pure (.bool (r1.2.1 != (p0.size : Int))) (by kernel_rfl) (fun _ => by kernel_rfl) ?_
    refine T.nil ?_
    refine T.cond (r1.2.1 != (p0.size : Int)) (by kernel_rfl) (by kernel_rfl) (fun hc2 => ?_) (fun hc2 => ?_)
    ·
      rw [hc2, cond_true] at hF
      refine T.seq ?_
      refine T.region ?_
      refine T.pure (.agg #[.int .i64 0, .slice none 0 0, .slice none 0 0, .slice none 0 0, .slice none 0 0]) (by kernel_rfl) (fun _ => by kernel_rfl) ?_
      refine T.step (W1.store 1 [.int .i64 0, .slice none 0 0, .slice none 0 0, .slice none 0 0, .slice none 0 0] [box b2 122 [.int .i64 r1.1.kind, .string r1.1.body], box b1 26 [.int .i64 0, .slice none 0 0, .slice none 0 0, .slice none 0 0, .slice none 0 0]] (by rfl) rfl (by kernel_rfl) (fun w' hw => exec_store (vs := [.int .i64 0, .slice none 0 0, .slice none 0 0, .slice none 0 0, .slice none 0 0]) rfl rfl rfl rfl (by kernel_rfl) (one_of rfl) (by simp) rfl hw) ?_)
      refine T.pure (.int .i64 3) (by kernel_rfl) (fun _ => by kernel_rfl) ?_
      refine T.nil ?_
      cases hF
      refine T.ret rfl ?_
      exact T.ret2 rfl (ResIs.cellN 1 rfl (by rfl) (fun _ => by kernel_rfl) (fun _ => by kernel_rfl)) (ResIs.tmp rfl) fun w' hh => ⟨_, rfl, hh.below, (vT2.mk (vAg.mk ⟨_, _, _, _, _, _, _, _, rfl, (SlOk.nil _ _), (SlOk.nil _ _), (SlOk.nil _ _), (SlOk.nil _ _)⟩) (show _ from rfl))⟩
    ·
      rw [hc2, cond_false] at hF
      refine T.skip_code ?_
      refine T.seq ?_
      refine T.region ?_
      refine T.pure (.pointer (some ⟨b2, 0, none⟩)) (by kernel_rfl) (fun _ => by kernel_rfl) ?_
      refine T.look (.int .i64 r1.1.kind) (by kernel_rfl) (fun w' hh => exec_load1 rfl rfl (by kernel_rfl) (hh.cellBox (i := 0) (by rfl) 0)) ?_
      refine T.pure (.int .i64 (IntKind.i64.wrap (r1.1.kind - 1))) (by kernel_rfl) (fun _ => by kernel_rfl) ?_
      refine T.pure (.agg #[.int .i64 (IntKind.i64.wrap (r1.1.kind - 1)), .slice none 0 0, .slice none 0 0, .slice none 0 0, .slice none 0 0]) (by kernel_rfl) (fun _ => by kernel_rfl) ?_
      refine T.step (W1.new 26 [.int .i64 0, .slice none 0 0, .slice none 0 0, .slice none 0 0, .slice none 0 0] (fun b => .pointer (some ⟨b, 0, none⟩)) (by kernel_rfl) (fun _ => by kernel_rfl) (fun b3 => ?_))
      refine T.step (W1.store 0 [.int .i64 (IntKind.i64.wrap (r1.1.kind - 1)), .slice none 0 0, .slice none 0 0, .slice none 0 0, .slice none 0 0] [box b3 26 [.int .i64 (IntKind.i64.wrap (r1.1.kind - 1)), .slice none 0 0, .slice none 0 0, .slice none 0 0, .slice none 0 0], box b2 122 [.int .i64 r1.1.kind, .string r1.1.body], box b1 26 [.int .i64 0, .slice none 0 0, .slice none 0 0, .slice none 0 0, .slice none 0 0]] (by rfl) rfl (by kernel_rfl) (fun w' hw => exec_store (vs := [.int .i64 (IntKind.i64.wrap (r1.1.kind - 1)), .slice none 0 0, .slice none 0 0, .slice none 0 0, .slice none 0 0]) rfl rfl rfl rfl (by kernel_rfl) (one_of rfl) (by simp) rfl hw) ?_)
      refine T.nil ?_
      refine T.seq ?_
      refine T.region ?_
      refine T.pure (.bool true) (by kernel_rfl) (fun _ => by kernel_rfl) ?_
      refine T.nil ?_
      obtain ⟨q1, hX1, hF⟩ := Option.bind_eq_some_iff.1 hF
      refine T.cut (fun a w' => ∃ (z1 : Int) (z2 : List DElem) (z3 : List Int) (z4 : List DSpot) (z5 : List Int) (z6 : Bool), q1 = (z1, z2, z3, z4, z5, z6) ∧ ∃ (A1 : Option Addr) (c1 : Nat) (A2 : Option Addr) (c2 : Nat) (A3 : Option Addr) (c3 : Nat) (A4 : Option Addr) (c4 : Nat) (V2 : View), View.le V1 V2 ∧ SlOk (made w V2) eElem A1 c1 z2 ∧ SlOk (made w V2) eInt A2 c2 z3 ∧ SlOk (made w V2) eSpot A3 c3 z4 ∧ SlOk (made w V2) eInt A4 c4 z5 ∧ Fr 63 [(2, .pointer (some ⟨b1, 0, none⟩)), (7, .pointer (some ⟨b3, 0, none⟩)), (8, .bool z6)] a ∧ Hp w V2 [box b3 26 [.int .i64 z1, .slice A1 z2.length c1, .slice A2 z3.length c2, .slice A3 z4.length c3, .slice A4 z5.length c4], box b1 26 [.int .i64 0, .slice none 0 0, .slice none 0 0, .slice none 0 0, .slice none 0 0]] w') ?_ ?_
      ·
        refine T.seq ?_
        refine T.region ?_
        refine T.pure (.pointer (some ⟨b3, 0, none⟩)) (by kernel_rfl) (fun _ => by kernel_rfl) ?_
        refine T.look (.int .i64 (IntKind.i64.wrap (r1.1.kind - 1))) (by kernel_rfl) (fun w' hh => exec_load1 rfl rfl (by kernel_rfl) (hh.cellBox (i := 0) (by rfl) 0)) ?_
        refine T.nil ?_
        refine T.block ?_
        refine T.seq ?_
        refine T.region ?_
        refine T.pure (.bool ((IntKind.i64.wrap (r1.1.kind - 1)) == 0)) (by kernel_rfl) (fun _ => by kernel_rfl) ?_
        refine T.pure (.bool ((IntKind.i64.wrap (r1.1.kind - 1)) == 0)) (by kernel_rfl) (fun _ => by kernel_rfl) ?_
        refine T.nil ?_
        refine T.cond ((IntKind.i64.wrap (r1.1.kind - 1)) == 0) (by kernel_rfl) (by kernel_rfl) (fun hc3 => ?_) (fun hc3 => ?_)
        ·
          rw [hc3, cond_true] at hX1
          refine T.region ?_
          refine T.pure (.pointer (some ⟨b2, 1, none⟩)) (by kernel_rfl) (fun _ => by kernel_rfl) ?_
          refine T.look (.string r1.1.body) (by kernel_rfl) (fun w' hh => exec_load1 rfl rfl (by kernel_rfl) (hh.cellBox (i := 1) (by rfl) 1)) ?_
          refine T.pure (.bool (seq r1.1.body (ByteArray.mk #[]))) (by kernel_rfl) (fun _ => by kernel_rfl) ?_
          refine T.pure (.bool (seq r1.1.body (ByteArray.mk #[]))) (by kernel_rfl) (fun _ => by kernel_rfl) ?_
          refine T.nil ?_
          cases hX1
          exact fun a w' hf hh => Exists.intro (IntKind.i64.wrap (r1.1.kind - 1)) (Exists.intro [] (Exists.intro [] (Exists.intro [] (Exists.intro [] (Exists.intro (seq r1.1.body (ByteArray.mk #[])) (And.intro rfl (Exists.intro none (Exists.intro 0 (Exists.intro none (Exists.intro 0 (Exists.intro none (Exists.intro 0 (Exists.intro none (Exists.intro 0 (Exists.intro V1 (And.intro (View.le_refl _) (And.intro (SlOk.nil _ _) (And.intro (SlOk.nil _ _) (And.intro (SlOk.nil _ _) (And.intro (SlOk.nil _ _) (And.intro ((((Fr.nil hf).pick hf 8 rfl).pick hf 7 rfl).pick hf 2 rfl) (hh.sub (.cons_cons _ (.cons _ (.cons_cons _ List.Sublist.slnil)))))))))))))))))))))))))
        ·
          rw [hc3, cond_false] at hX1
          refine T.seq ?_
          refine T.region ?_
          refine T.pure (.bool ((IntKind.i64.wrap (r1.1.kind - 1)) == 1)) (by kernel_rfl) (fun _ => by kernel_rfl) ?_
          refine T.pure (.bool ((IntKind.i64.wrap (r1.1.kind - 1)) == 1)) (by kernel_rfl) (fun _ => by kernel_rfl) ?_
          refine T.nil ?_
          refine T.cond ((IntKind.i64.wrap (r1.1.kind - 1)) == 1) (by kernel_rfl) (by kernel_rfl) (fun hc4 => ?_) (fun hc4 => ?_)
          ·
            rw [hc4, cond_true] at hX1
            refine T.seq ?_
            refine T.region ?_
            refine T.pure (.pointer (some ⟨b2, 1, none⟩)) (by kernel_rfl) (fun _ => by kernel_rfl) ?_
            refine T.look (.string r1.1.body) (by kernel_rfl) (fun w' hh => exec_load1 rfl rfl (by kernel_rfl) (hh.cellBox (i := 1) (by rfl) 1)) ?_
            obtain ⟨r2, hb2, hX1⟩ := Option.bind_eq_some_iff.1 hX1
            refine T.step (W1.call (vT2 (vSc (eList eElem)) (vSc eInt)) r2 94 #[.string r1.1.body] (by kernel_rfl) (fun _ => by kernel_rfl) (fun w' hh => code_All_l F r1.1.body r2 hb2 w' ) ?_)
            intro u V3 hV3 hu
            obtain ⟨u1, u2, rfl, hu1, hu2⟩ := vT2_elim hu
            obtain ⟨A5, c5, rfl, hs5⟩ := vlist_elim hu1
            obtain rfl := sureInt _ _ _ hu2
            refine T.pure (.tuple #[.slice A5 r2.1.length c5, .int .i64 r2.2]) (by kernel_rfl) (fun _ => by kernel_rfl) ?_
            refine T.pure (.slice A5 r2.1.length c5) (by kernel_rfl) (fun _ => by kernel_rfl) ?_
            refine T.pure (.int .i64 r2.2) (by kernel_rfl) (fun _ => by kernel_rfl) ?_
            refine T.pure (.pointer (some ⟨b3, 1, none⟩)) (by kernel_rfl) (fun _ => by kernel_rfl) ?_
            refine T.step (W1.store 0 [.int .i64 (IntKind.i64.wrap (r1.1.kind - 1)), .slice A5 r2.1.length c5, .slice none 0 0, .slice none 0 0, .slice none 0 0] [box b3 26 [.int .i64 (IntKind.i64.wrap (r1.1.kind - 1)), .slice A5 r2.1.length c5, .slice none 0 0, .slice none 0 0, .slice none 0 0], box b2 122 [.int .i64 r1.1.kind, .string r1.1.body], box b1 26 [.int .i64 0, .slice none 0 0, .slice none 0 0, .slice none 0 0, .slice none 0 0]] (by rfl) rfl (by kernel_rfl) (fun w' hw => exec_store (vs := [.slice A5 r2.1.length c5]) rfl rfl rfl rfl (by kernel_rfl) (one_of rfl) (by simp) rfl hw) ?_)
            refine T.pure (.int .i64 r2.2) (by kernel_rfl) (fun _ => by kernel_rfl) ?_
            refine T.nil ?_
            refine T.region ?_
            refine T.pure (.int .i64 r2.2) (by kernel_rfl) (fun _ => by kernel_rfl) ?_
            refine T.pure (.bool (r2.2 == 0)) (by kernel_rfl) (fun _ => by kernel_rfl) ?_
            refine T.pure (.bool (r2.2 == 0)) (by kernel_rfl) (fun _ => by kernel_rfl) ?_
            refine T.nil ?_
            cases hX1
            exact fun a w' hf hh => Exists.intro (IntKind.i64.wrap (r1.1.kind - 1)) (Exists.intro r2.1 (Exists.intro [] (Exists.intro [] (Exists.intro [] (Exists.intro (r2.2 == 0) (And.intro rfl (Exists.intro A5 (Exists.intro c5 (Exists.intro none (Exists.intro 0 (Exists.intro none (Exists.intro 0 (Exists.intro none (Exists.intro 0 (Exists.intro V3 (And.intro hV3 (And.intro (SlOk.mono hs5 (made_mono (View.le_refl _))) (And.intro (SlOk.nil _ _) (And.intro (SlOk.nil _ _) (And.intro (SlOk.nil _ _) (And.intro ((((Fr.nil hf).pick hf 8 rfl).pick hf 7 rfl).pick hf 2 rfl) (hh.sub (.cons_cons _ (.cons _ (.cons_cons _ List.Sublist.slnil)))))))))))))))))))))))))
          ·
            rw [hc4, cond_false] at hX1
            refine T.seq ?_
            refine T.region ?_
            refine T.pure (.bool ((IntKind.i64.wrap (r1.1.kind - 1)) == 2)) (by kernel_rfl) (fun _ => by kernel_rfl) ?_
            refine T.pure (.bool ((IntKind.i64.wrap (r1.1.kind - 1)) == 2)) (by kernel_rfl) (fun _ => by kernel_rfl) ?_
            refine T.nil ?_
            refine T.cond ((IntKind.i64.wrap (r1.1.kind - 1)) == 2) (by kernel_rfl) (by kernel_rfl) (fun hc5 => ?_) (fun hc5 => ?_)
            ·
              rw [hc5, cond_true] at hX1
              refine T.region ?_
              refine T.pure (.pointer (some ⟨b2, 1, none⟩)) (by kernel_rfl) (fun _ => by kernel_rfl) ?_
              refine T.look (.string r1.1.body) (by kernel_rfl) (fun w' hh => exec_load1 rfl rfl (by kernel_rfl) (hh.cellBox (i := 1) (by rfl) 1)) ?_
              obtain ⟨r3, hb3, hX1⟩ := Option.bind_eq_some_iff.1 hX1
              refine T.step (W1.call (vT2 (vAg eNode) (vSc eBool)) r3 95 #[.string r1.1.body] (by kernel_rfl) (fun _ => by kernel_rfl) (fun w' hh => page_kids_l F r1.1.body r3 hb3 w' ) ?_)
              intro u V4 hV4 hu
              obtain ⟨u3, u4, rfl, hu3, hu4⟩ := vT2_elim hu
              obtain ⟨cs1, rfl, hr1⟩ := vagg_elim hu3
              obtain ⟨A6, c6, A7, c7, A8, c8, A9, c9, rfl, hs6, hs7, hs8, hs9⟩ := hr1
              obtain rfl := sureBool _ _ _ hu4
              refine T.pure (.tuple #[.agg #[.int .i64 r3.1.kind, .slice A6 r3.1.elems.length c6, .slice A7 r3.1.kids.length c7, .slice A8 r3.1.seps.length c8, .slice A9 r3.1.tids.length c9], .bool r3.2]) (by kernel_rfl) (fun _ => by kernel_rfl) ?_
              refine T.pure (.agg #[.int .i64 r3.1.kind, .slice A6 r3.1.elems.length c6, .slice A7 r3.1.kids.length c7, .slice A8 r3.1.seps.length c8, .slice A9 r3.1.tids.length c9]) (by kernel_rfl) (fun _ => by kernel_rfl) ?_
              refine T.pure (.bool r3.2) (by kernel_rfl) (fun _ => by kernel_rfl) ?_
              refine T.step (W1.store 0 [.int .i64 r3.1.kind, .slice A6 r3.1.elems.length c6, .slice A7 r3.1.kids.length c7, .slice A8 r3.1.seps.length c8, .slice A9 r3.1.tids.length c9] [box b3 26 [.int .i64 r3.1.kind, .slice A6 r3.1.elems.length c6, .slice A7 r3.1.kids.length c7, .slice A8 r3.1.seps.length c8, .slice A9 r3.1.tids.length c9], box b2 122 [.int .i64 r1.1.kind, .string r1.1.body], box b1 26 [.int .i64 0, .slice none 0 0, .slice none 0 0, .slice none 0 0, .slice none 0 0]] (by rfl) rfl (by kernel_rfl) (fun w' hw => exec_store (vs := [.int .i64 r3.1.kind, .slice A6 r3.1.elems.length c6, .slice A7 r3.1.kids.length c7, .slice A8 r3.1.seps.length c8, .slice A9 r3.1.tids.length c9]) rfl rfl rfl rfl (by kernel_rfl) (one_of rfl) (by simp) rfl hw) ?_)
              refine T.pure (.bool r3.2) (by kernel_rfl) (fun _ => by kernel_rfl) ?_
              refine T.nil ?_
              cases hX1
              exact fun a w' hf hh => Exists.intro r3.1.kind (Exists.intro r3.1.elems (Exists.intro r3.1.kids (Exists.intro r3.1.seps (Exists.intro r3.1.tids (Exists.intro r3.2 (And.intro rfl (Exists.intro A6 (Exists.intro c6 (Exists.intro A7 (Exists.intro c7 (Exists.intro A8 (Exists.intro c8 (Exists.intro A9 (Exists.intro c9 (Exists.intro V4 (And.intro hV4 (And.intro (SlOk.mono hs6 (made_mono (View.le_refl _))) (And.intro (SlOk.mono hs7 (made_mono (View.le_refl _))) (And.intro (SlOk.mono hs8 (made_mono (View.le_refl _))) (And.intro (SlOk.mono hs9 (made_mono (View.le_refl _))) (And.intro ((((Fr.nil hf).pick hf 8 rfl).pick hf 7 rfl).pick hf 2 rfl) (hh.sub (.cons_cons _ (.cons _ (.cons_cons _ List.Sublist.slnil)))))))))))))))))))))))))
            ·
              rw [hc5, cond_false] at hX1
              refine T.skip_code ?_
              cases hX1
              exact fun a w' hf hh => Exists.intro (IntKind.i64.wrap (r1.1.kind - 1)) (Exists.intro [] (Exists.intro [] (Exists.intro [] (Exists.intro [] (Exists.intro true (And.intro rfl (Exists.intro none (Exists.intro 0 (Exists.intro none (Exists.intro 0 (Exists.intro none (Exists.intro 0 (Exists.intro none (Exists.intro 0 (Exists.intro V1 (And.intro (View.le_refl _) (And.intro (SlOk.nil _ _) (And.intro (SlOk.nil _ _) (And.intro (SlOk.nil _ _) (And.intro (SlOk.nil _ _) (And.intro ((((Fr.nil hf).pick hf 8 rfl).pick hf 7 rfl).pick hf 2 rfl) (hh.sub (.cons_cons _ (.cons _ (.cons_cons _ List.Sublist.slnil)))))))))))))))))))))))))
      ·
        rintro a w' ⟨z1, z2, z3, z4, z5, z6, rfl, A1, c1, A2, c2, A3, c3, A4, c4, V2, hV2, hs1, hs2, hs3, hs4, hf, hh⟩
        try dsimp only at hF
        refine (?_ : T 63 w V2 [box b3 26 [.int .i64 z1, .slice A1 z2.length c1, .slice A2 z3.length c2, .slice A3 z4.length c3, .slice A4 z5.length c4], box b1 26 [.int .i64 0, .slice none 0 0, .slice none 0 0, .slice none 0 0, .slice none 0 0]] [(2, .pointer (some ⟨b1, 0, none⟩)), (7, .pointer (some ⟨b3, 0, none⟩)), (8, .bool z6)] _) a w' hf hh
        clear hf hh
        refine T.seq ?_
        obtain ⟨z7, hX2, hF⟩ := Option.bind_eq_some_iff.1 hF
        refine T.cut (fun a w' => ∃ (V5 : View), View.le V2 V5 ∧ Fr 63 [(2, .pointer (some ⟨b1, 0, none⟩)), (7, .pointer (some ⟨b3, 0, none⟩)), (60, .bool z7)] a ∧ Hp w V5 [box b3 26 [.int .i64 z1, .slice A1 z2.length c1, .slice A2 z3.length c2, .slice A3 z4.length c3, .slice A4 z5.length c4], box b1 26 [.int .i64 0, .slice none 0 0, .slice none 0 0, .slice none 0 0, .slice none 0 0]] w') ?_ ?_
        ·
          refine T.region ?_
          refine T.pure (.bool z6) (by kernel_rfl) (fun _ => by kernel_rfl) ?_
          refine T.pure (.bool (!z6)) (by kernel_rfl) (fun _ => by kernel_rfl) ?_
          refine T.pure (.bool (!z6)) (by kernel_rfl) (fun _ => by kernel_rfl) ?_
          cases hg1 : (!z6)
          ·
            skip
            rw [hg1, cond_false] at hX2
            refine T.look (.agg #[.int .i64 z1, .slice A1 z2.length c1, .slice A2 z3.length c2, .slice A3 z4.length c3, .slice A4 z5.length c4]) (by kernel_rfl) (fun w' hh => exec_loadN (cs := [.int .i64 z1, .slice A1 z2.length c1, .slice A2 z3.length c2, .slice A3 z4.length c3, .slice A4 z5.length c4]) rfl rfl (by kernel_rfl) (by kernel_rfl) (fun j u hj => (hh.box_at (i := 0) (cs := [.int .i64 z1, .slice A1 z2.length c1, .slice A2 z3.length c2, .slice A3 z4.length c3, .slice A4 z5.length c4]) (by rfl) 0 j).trans (seg_at (n := 5) rfl hj))) ?_
            obtain ⟨r4, hb4, hX2⟩ := Option.bind_eq_some_iff.1 hX2
            refine T.step (W1.call (vSc eInt) r4 23 #[.agg #[.int .i64 z1, .slice A1 z2.length c1, .slice A2 z3.length c2, .slice A3 z4.length c3, .slice A4 z5.length c4]] (by kernel_rfl) (fun _ => by kernel_rfl) (fun w' hh => node_Check_l F (DNode.mk z1 z2 z3 z4 z5) r4 hb4 w' A1 c1 (SlOk.mono (SlOk.mono hs1 (View.le_trans (made_le _ _) (View.le_refl _))) hh.view) A2 c2 (SlOk.mono (SlOk.mono hs2 (View.le_trans (made_le _ _) (View.le_refl _))) hh.view) A3 c3 (SlOk.mono (SlOk.mono hs3 (View.le_trans (made_le _ _) (View.le_refl _))) hh.view) A4 c4 (SlOk.mono (SlOk.mono hs4 (View.le_trans (made_le _ _) (View.le_refl _))) hh.view)) ?_)
            intro u V6 hV6 hu
            obtain rfl := sureInt _ _ _ hu
            refine T.pure (.bool (r4 != 0)) (by kernel_rfl) (fun _ => by kernel_rfl) ?_
            refine T.pure (.bool (r4 != 0)) (by kernel_rfl) (fun _ => by kernel_rfl) ?_
            refine T.nil ?_
            cases hX2
            exact fun a w' hf hh => Exists.intro V6 (And.intro hV6 (And.intro ((((Fr.nil hf).pick hf 60 rfl).pick hf 7 rfl).pick hf 2 rfl) (hh.sub (.cons_cons _ (.cons_cons _ List.Sublist.slnil)))))
          ·
            skip
            rw [hg1, cond_true] at hX2
            refine T.pass (by kernel_rfl) (by kernel_rfl) ?_
            refine T.pass (by kernel_rfl) (by kernel_rfl) ?_
            refine T.pass (by kernel_rfl) (by kernel_rfl) ?_
            refine T.pure (.bool true) (by kernel_rfl) (fun _ => by kernel_rfl) ?_
            refine T.nil ?_
            cases hX2
            exact fun a w' hf hh => Exists.intro V2 (And.intro (View.le_refl _) (And.intro ((((Fr.nil hf).pick hf 60 rfl).pick hf 7 rfl).pick hf 2 rfl) (hh.sub (.cons_cons _ (.cons_cons _ List.Sublist.slnil)))))
        ·
          rintro a w' ⟨V5, hV5, hf, hh⟩
          refine (?_ : T 63 w V5 [box b3 26 [.int .i64 z1, .slice A1 z2.length c1, .slice A2 z3.length c2, .slice A3 z4.length c3, .slice A4 z5.length c4], box b1 26 [.int .i64 0, .slice none 0 0, .slice none 0 0, .slice none 0 0, .slice none 0 0]] [(2, .pointer (some ⟨b1, 0, none⟩)), (7, .pointer (some ⟨b3, 0, none⟩)), (60, .bool z7)] _) a w' hf hh
          clear hf hh
          refine T.cond z7 (by kernel_rfl) (by kernel_rfl) (fun hc6 => ?_) (fun hc6 => ?_)
          ·
            rw [hc6, cond_true] at hF
            refine T.seq ?_
            refine T.region ?_
            refine T.pure (.agg #[.int .i64 0, .slice none 0 0, .slice none 0 0, .slice none 0 0, .slice none 0 0]) (by kernel_rfl) (fun _ => by kernel_rfl) ?_
            refine T.step (W1.store 1 [.int .i64 0, .slice none 0 0, .slice none 0 0, .slice none 0 0, .slice none 0 0] [box b3 26 [.int .i64 z1, .slice A1 z2.length c1, .slice A2 z3.length c2, .slice A3 z4.length c3, .slice A4 z5.length c4], box b1 26 [.int .i64 0, .slice none 0 0, .slice none 0 0, .slice none 0 0, .slice none 0 0]] (by rfl) rfl (by kernel_rfl) (fun w' hw => exec_store (vs := [.int .i64 0, .slice none 0 0, .slice none 0 0, .slice none 0 0, .slice none 0 0]) rfl rfl rfl rfl (by kernel_rfl) (one_of rfl) (by simp) rfl hw) ?_)
            refine T.pure (.int .i64 3) (by kernel_rfl) (fun _ => by kernel_rfl) ?_
            refine T.nil ?_
            cases hF
            refine T.ret rfl ?_
            exact T.ret2 rfl (ResIs.cellN 1 rfl (by rfl) (fun _ => by kernel_rfl) (fun _ => by kernel_rfl)) (ResIs.tmp rfl) fun w' hh => ⟨_, rfl, hh.below, (vT2.mk (vAg.mk ⟨_, _, _, _, _, _, _, _, rfl, (SlOk.nil _ _), (SlOk.nil _ _), (SlOk.nil _ _), (SlOk.nil _ _)⟩) (show _ from rfl))⟩
          ·
            rw [hc6, cond_false] at hF
            refine T.skip_code ?_
            refine T.seq ?_
            refine T.region ?_
            refine T.look (.agg #[.int .i64 z1, .slice A1 z2.length c1, .slice A2 z3.length c2, .slice A3 z4.length c3, .slice A4 z5.length c4]) (by kernel_rfl) (fun w' hh => exec_loadN (cs := [.int .i64 z1, .slice A1 z2.length c1, .slice A2 z3.length c2, .slice A3 z4.length c3, .slice A4 z5.length c4]) rfl rfl (by kernel_rfl) (by kernel_rfl) (fun j u hj => (hh.box_at (i := 0) (cs := [.int .i64 z1, .slice A1 z2.length c1, .slice A2 z3.length c2, .slice A3 z4.length c3, .slice A4 z5.length c4]) (by rfl) 0 j).trans (seg_at (n := 5) rfl hj))) ?_
            refine T.step (W1.store 1 [.int .i64 z1, .slice A1 z2.length c1, .slice A2 z3.length c2, .slice A3 z4.length c3, .slice A4 z5.length c4] [box b3 26 [.int .i64 z1, .slice A1 z2.length c1, .slice A2 z3.length c2, .slice A3 z4.length c3, .slice A4 z5.length c4], box b1 26 [.int .i64 z1, .slice A1 z2.length c1, .slice A2 z3.length c2, .slice A3 z4.length c3, .slice A4 z5.length c4]] (by rfl) rfl (by kernel_rfl) (fun w' hw => exec_store (vs := [.int .i64 z1, .slice A1 z2.length c1, .slice A2 z3.length c2, .slice A3 z4.length c3, .slice A4 z5.length c4]) rfl rfl rfl rfl (by kernel_rfl) (one_of rfl) (by simp) rfl hw) ?_)
            refine T.pure (.int .i64 0) (by kernel_rfl) (fun _ => by kernel_rfl) ?_
            refine T.nil ?_
            cases hF
            refine T.ret rfl ?_
            exact T.ret2 rfl (ResIs.cellN 1 rfl (by rfl) (fun _ => by kernel_rfl) (fun _ => by kernel_rfl)) (ResIs.tmp rfl) fun w' hh => ⟨_, rfl, hh.below, (vT2.mk (vAg.mk ⟨_, _, _, _, _, _, _, _, rfl, (SlOk.mono hs1 (View.le_trans (made_mono hV5) (made_fresh hh))), (SlOk.mono hs2 (View.le_trans (made_mono hV5) (made_fresh hh))), (SlOk.mono hs3 (View.le_trans (made_mono hV5) (made_fresh hh))), (SlOk.mono hs4 (View.le_trans (made_mono hV5) (made_fresh hh)))⟩) (show _ from rfl))⟩

end Go.Proofs.Ytldlakjemifdmaa
