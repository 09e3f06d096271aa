/- The Go functions of group Run compute the pure functions of that group: written by walkgen.py. Condition of each: the pure function yields a result. -/
import Derived.Test.YtaodaihoglcinadKeyL
import Derived.Test.YtaodaihoglcinadRunF
import Derived.Test.YtaodaihoglcinadEqL
namespace Go.Proofs.Ytaodaihoglcinad
set_option linter.unusedVariables false

set_option maxRecDepth 100000 in
set_option maxHeartbeats 4000000 in
theorem run_Check_l (F : Nat) (p0 : (List DElem)) (r : Int) (hF : run_Check F p0 = some r) (w : World) (A1 : Option Addr) (c1 : Nat) (hs1 : SlOk (vw w) eElem A1 c1 p0) :
    Calls Try.prog 13 #[.slice A1 p0.length c1] w (Post (vSc eInt) r w) := by
 unfold run_Check at hF
 refine T.start (l := [.slice A1 p0.length c1]) Try.func13 rfl rfl rfl ?_
 refine T.seq ?_
 refine T.region ?_
 refine T.pure (.int .i64 0) (by kernel_rfl) (fun _ => by kernel_rfl) ?_
 refine T.nil ?_
 refine T.seq ?_
 refine T.seq ?_
 refine T.region ?_
 refine T.pure (.slice A1 p0.length c1) (by kernel_rfl) (fun _ => by kernel_rfl) ?_
 refine T.pure (.int .i64 (p0.length : Int)) (by kernel_rfl) (fun _ => by kernel_rfl) ?_
 refine T.pure (.bool (decide ((400 : Int) < (p0.length : Int)))) (by kernel_rfl) (fun _ => by kernel_rfl) ?_
 refine T.nil ?_
 refine T.cond (decide ((400 : Int) < (p0.length : Int))) (by kernel_rfl) (by kernel_rfl) (fun hc1 => ?_) (fun hc1 => ?_)
 ·
  rw [hc1, cond_true] at hF
  refine T.seq ?_
  refine T.region ?_
  refine T.pure (.int .i64 2) (by kernel_rfl) (fun _ => by kernel_rfl) ?_
  refine T.nil ?_
  cases hF
  refine T.ret rfl ?_
  exact T.ret1 rfl (ResIs.tmp rfl) fun w' hh => ⟨_, rfl, hh.below, (show _ from rfl)⟩
 ·
  rw [hc1, cond_false] at hF
  refine T.skip_code ?_
  refine T.seq ?_
  refine T.seq ?_
  refine T.region ?_
  refine T.pure (.slice A1 p0.length c1) (by kernel_rfl) (fun _ => by kernel_rfl) ?_
  refine T.pure (.int .i64 (p0.length : Int)) (by kernel_rfl) (fun _ => by kernel_rfl) ?_
  refine T.pure (.int .i64 0) (by kernel_rfl) (fun _ => by kernel_rfl) ?_
  refine T.nil ?_
  obtain ⟨q1, hz1, hF⟩ := Option.bind_eq_some_iff.1 hF
  refine T.mid (fun a w' => q1 = Sum.inl () ∧ ∃ (V2 : View), View.le (vw w) V2 ∧ Fr 55 [] a ∧ Hp w V2 [] w') ?_ ?_
  ·
   refine T.block ?_
   refine T.iter (fun x1 a w' => ∃ (V1 : View), View.le (vw w) V1 ∧ Fr 55 [(0, .slice A1 p0.length c1), (10, .slice A1 p0.length c1), (11, .int .i64 (p0.length : Int)), (12, .int .i64 x1)] a ∧ Hp w V1 [] w') hz1 ?_ ?_
   ·
    exact fun a w' hf hh => Exists.intro (vw w) (And.intro (View.le_refl _) (And.intro (((((Fr.nil hf).pick hf 12 rfl).pick hf 11 rfl).pick hf 10 rfl).pick hf 0 rfl) (hh.sub List.Sublist.slnil)))
   ·
    rintro x1 y1 hY1 hr1 a w' ⟨V1, hV1, hf, hh⟩
    refine (?_ : T 55 w V1 [] [(0, .slice A1 p0.length c1), (10, .slice A1 p0.length c1), (11, .int .i64 (p0.length : Int)), (12, .int .i64 x1)] _) a w' hf hh
    clear hf hh
    try dsimp only at hY1
    refine T.seq ?_
    refine T.region ?_
    refine T.pure (.bool (decide (x1 < (p0.length : Int)))) (by kernel_rfl) (fun _ => by kernel_rfl) ?_
    refine T.nil ?_
    refine T.seq ?_
    refine T.cond (decide (x1 < (p0.length : Int))) (by kernel_rfl) (by kernel_rfl) (fun hc2 => ?_) (fun hc2 => ?_)
    ·
     rw [hc2, cond_true] at hY1
     refine T.skip_code ?_
     obtain ⟨q2, hX1, hY1⟩ := Option.bind_eq_some_iff.1 hY1
     refine T.cut (fun a w' => q2 = Sum.inl () ∧ ∃ (V3 : View), View.le V1 V3 ∧ Fr 55 [(0, .slice A1 p0.length c1), (10, .slice A1 p0.length c1), (11, .int .i64 (p0.length : Int)), (12, .int .i64 x1)] a ∧ Hp w V3 [] w') ?_ ?_
     ·
      refine T.block ?_
      refine T.seq ?_
      refine T.region ?_
      refine T.pure (.int .i64 x1) (by kernel_rfl) (fun _ => by kernel_rfl) ?_
      obtain ⟨e1, hb1, hX1⟩ := Option.bind_eq_some_iff.1 hX1
      obtain ⟨hi1, hi2, hi3⟩ := idx_some hb1
      refine T.look (.pointer (some ((sadr A1).add (x1.toNat * 6)))) (by kernel_rfl) (fun w' hh => exec_indexAddr (e := 40) (s := 6) rfl rfl rfl (by kernel_rfl) (by kernel_rfl) hi1 hi2 ((SlOk.mono hs1 hV1).some_ hi3 (by decide))) ?_
      refine T.look (.agg #[.int .i64 e1.key.pfs, .int .i64 e1.key.obj, .int .i64 e1.key.off, .int .i64 e1.made, .int .i64 e1.gone, .string e1.val]) (by kernel_rfl) (fun w' hh => exec_loadN (cs := [.int .i64 e1.key.pfs, .int .i64 e1.key.obj, .int .i64 e1.key.off, .int .i64 e1.made, .int .i64 e1.gone, .string e1.val]) rfl rfl (by kernel_rfl) (by kernel_rfl) (fun j u hj => (hh.cell_view (SlOk.cellF (E := eElem) (SlOk.mono hs1 hV1) hi3 j (fun _ _ _ h => h) hj)))) ?_
      refine T.step (W1.new 40 [.int .i64 0, .int .i64 0, .int .i64 0, .int .i64 0, .int .i64 0, .string (ByteArray.mk #[])] (fun b => .pointer (some ⟨b, 0, none⟩)) (by kernel_rfl) (fun _ => by kernel_rfl) (fun b1 => ?_))
      refine T.pure (.int .i64 x1) (by kernel_rfl) (fun _ => by kernel_rfl) ?_
      refine T.step (W1.store 0 [.int .i64 e1.key.pfs, .int .i64 e1.key.obj, .int .i64 e1.key.off, .int .i64 e1.made, .int .i64 e1.gone, .string e1.val] [box b1 40 [.int .i64 e1.key.pfs, .int .i64 e1.key.obj, .int .i64 e1.key.off, .int .i64 e1.made, .int .i64 e1.gone, .string e1.val]] (by rfl) rfl (by kernel_rfl) (fun w' hw => exec_store (vs := [.int .i64 e1.key.pfs, .int .i64 e1.key.obj, .int .i64 e1.key.off, .int .i64 e1.made, .int .i64 e1.gone, .string e1.val]) rfl rfl rfl rfl (by kernel_rfl) (one_of rfl) (by simp) rfl hw) ?_)
      refine T.nil ?_
      refine T.seq ?_
      refine T.seq ?_
      refine T.region ?_
      refine T.look (.agg #[.int .i64 e1.key.pfs, .int .i64 e1.key.obj, .int .i64 e1.key.off, .int .i64 e1.made, .int .i64 e1.gone, .string e1.val]) (by kernel_rfl) (fun w' hh => exec_loadN (cs := [.int .i64 e1.key.pfs, .int .i64 e1.key.obj, .int .i64 e1.key.off, .int .i64 e1.made, .int .i64 e1.gone, .string e1.val]) rfl rfl (by kernel_rfl) (by kernel_rfl) (fun j u hj => (hh.box_at (i := 0) (cs := [.int .i64 e1.key.pfs, .int .i64 e1.key.obj, .int .i64 e1.key.off, .int .i64 e1.made, .int .i64 e1.gone, .string e1.val]) (by rfl) 0 j).trans (seg_at (n := 6) (by rfl) hj))) ?_
      obtain ⟨r1, hb2, hX1⟩ := Option.bind_eq_some_iff.1 hX1
      refine T.step (W1.call (vSc eInt) r1 23 #[.agg #[.int .i64 e1.key.pfs, .int .i64 e1.key.obj, .int .i64 e1.key.off, .int .i64 e1.made, .int .i64 e1.gone, .string e1.val]] (by kernel_rfl) (fun _ => by kernel_rfl) (fun w' hh => elem_Check_l e1 r1 hb2 w' ) ?_)
      intro u V4 hV4 hu
      obtain rfl := sureInt _ _ _ hu
      refine T.pure (.int .i64 r1) (by kernel_rfl) (fun _ => by kernel_rfl) ?_
      refine T.nil ?_
      refine T.seq ?_
      refine T.region ?_
      refine T.pure (.int .i64 r1) (by kernel_rfl) (fun _ => by kernel_rfl) ?_
      refine T.pure (.bool (r1 != 0)) (by kernel_rfl) (fun _ => by kernel_rfl) ?_
      refine T.nil ?_
      refine T.cond (r1 != 0) (by kernel_rfl) (by kernel_rfl) (fun hc3 => ?_) (fun hc3 => ?_)
      ·
       rw [hc3, cond_true] at hX1
       refine T.seq ?_
       refine T.region ?_
       refine T.pure (.int .i64 r1) (by kernel_rfl) (fun _ => by kernel_rfl) ?_
       refine T.pure (.int .i64 r1) (by kernel_rfl) (fun _ => by kernel_rfl) ?_
       refine T.nil ?_
       cases hX1
       try dsimp only at hY1
       cases hY1
       cases (hr1 _ rfl)
       try dsimp only at hF
       cases hF
       refine T.ret rfl ?_
       exact T.ret1 rfl (ResIs.tmp rfl) fun w' hh => ⟨_, rfl, hh.below, (show _ from rfl)⟩
      ·
       rw [hc3, cond_false] at hX1
       refine T.skip_code ?_
       refine T.seq ?_
       refine T.seq ?_
       refine T.region ?_
       refine T.pure (.int .i64 x1) (by kernel_rfl) (fun _ => by kernel_rfl) ?_
       refine T.pure (.bool (x1 == 0)) (by kernel_rfl) (fun _ => by kernel_rfl) ?_
       refine T.nil ?_
       refine T.cond (x1 == 0) (by kernel_rfl) (by kernel_rfl) (fun hc4 => ?_) (fun hc4 => ?_)
       ·
        rw [hc4, cond_true] at hX1
        refine T.exit ?_
        cases hX1
        exact fun a w' hf hh => And.intro rfl (Exists.intro V4 (And.intro hV4 (And.intro (((((Fr.nil hf).pick hf 12 rfl).pick hf 11 rfl).pick hf 10 rfl).pick hf 0 rfl) (hh.sub (.cons _ List.Sublist.slnil)))))
       ·
        rw [hc4, cond_false] at hX1
        refine T.skip_code ?_
        refine T.seq ?_
        refine T.region ?_
        refine T.pure (.slice A1 p0.length c1) (by kernel_rfl) (fun _ => by kernel_rfl) ?_
        refine T.pure (.int .i64 x1) (by kernel_rfl) (fun _ => by kernel_rfl) ?_
        refine T.pure (.int .i64 (IntKind.i64.wrap (x1 - 1))) (by kernel_rfl) (fun _ => by kernel_rfl) ?_
        obtain ⟨e2, hb3, hX1⟩ := Option.bind_eq_some_iff.1 hX1
        obtain ⟨hi4, hi5, hi6⟩ := idx_some hb3
        refine T.look (.pointer (some ((sadr A1).add (((IntKind.i64.wrap (x1 - 1)).toNat) * 6)))) (by kernel_rfl) (fun w' hh => exec_indexAddr (e := 40) (s := 6) rfl rfl rfl (by kernel_rfl) (by kernel_rfl) hi4 hi5 ((SlOk.mono hs1 (View.le_trans hV1 hV4)).some_ hi6 (by decide))) ?_
        refine T.look (.agg #[.int .i64 e2.key.pfs, .int .i64 e2.key.obj, .int .i64 e2.key.off, .int .i64 e2.made, .int .i64 e2.gone, .string e2.val]) (by kernel_rfl) (fun w' hh => exec_loadN (cs := [.int .i64 e2.key.pfs, .int .i64 e2.key.obj, .int .i64 e2.key.off, .int .i64 e2.made, .int .i64 e2.gone, .string e2.val]) rfl rfl (by kernel_rfl) (by kernel_rfl) (fun j u hj => (hh.cell_view (SlOk.cellF (E := eElem) (SlOk.mono hs1 (View.le_trans hV1 hV4)) hi6 j (fun _ _ _ h => h) hj)))) ?_
        refine T.step (W1.new 40 [.int .i64 0, .int .i64 0, .int .i64 0, .int .i64 0, .int .i64 0, .string (ByteArray.mk #[])] (fun b => .pointer (some ⟨b, 0, none⟩)) (by kernel_rfl) (fun _ => by kernel_rfl) (fun b2 => ?_))
        refine T.step (W1.store 0 [.int .i64 e2.key.pfs, .int .i64 e2.key.obj, .int .i64 e2.key.off, .int .i64 e2.made, .int .i64 e2.gone, .string e2.val] [box b2 40 [.int .i64 e2.key.pfs, .int .i64 e2.key.obj, .int .i64 e2.key.off, .int .i64 e2.made, .int .i64 e2.gone, .string e2.val], box b1 40 [.int .i64 e1.key.pfs, .int .i64 e1.key.obj, .int .i64 e1.key.off, .int .i64 e1.made, .int .i64 e1.gone, .string e1.val]] (by rfl) rfl (by kernel_rfl) (fun w' hw => exec_store (vs := [.int .i64 e2.key.pfs, .int .i64 e2.key.obj, .int .i64 e2.key.off, .int .i64 e2.made, .int .i64 e2.gone, .string e2.val]) rfl rfl rfl rfl (by kernel_rfl) (one_of rfl) (by simp) rfl hw) ?_)
        refine T.nil ?_
        obtain ⟨z1, hX2, hX1⟩ := Option.bind_eq_some_iff.1 hX1
        refine T.cut (fun a w' => Fr 55 [(0, .slice A1 p0.length c1), (10, .slice A1 p0.length c1), (11, .int .i64 (p0.length : Int)), (12, .int .i64 x1), (53, .bool z1)] a ∧ Hp w V4 [] w') ?_ ?_
        ·
         refine T.quiet (by kernel_rfl) (by kernel_rfl) ?_
         refine TQ.look (.agg #[.int .i64 e2.key.pfs, .int .i64 e2.key.obj, .int .i64 e2.key.off, .int .i64 e2.made, .int .i64 e2.gone, .string e2.val]) (by kernel_rfl) (fun w' hh => exec_loadN (cs := [.int .i64 e2.key.pfs, .int .i64 e2.key.obj, .int .i64 e2.key.off, .int .i64 e2.made, .int .i64 e2.gone, .string e2.val]) rfl rfl (by kernel_rfl) (by kernel_rfl) (fun j u hj => (hh.box_at (i := 0) (cs := [.int .i64 e2.key.pfs, .int .i64 e2.key.obj, .int .i64 e2.key.off, .int .i64 e2.made, .int .i64 e2.gone, .string e2.val]) (by rfl) 0 j).trans (seg_at (n := 6) (by rfl) hj))) ?_
         obtain ⟨r2, hb4, hX2⟩ := Option.bind_eq_some_iff.1 hX2
         refine TQ.call (vAg eSpot) r2 25 #[.agg #[.int .i64 e2.key.pfs, .int .i64 e2.key.obj, .int .i64 e2.key.off, .int .i64 e2.made, .int .i64 e2.gone, .string e2.val]] (.agg #[.int .i64 r2.key.pfs, .int .i64 r2.key.obj, .int .i64 r2.key.off, .int .i64 r2.made]) (fun V u hu => sureSpot V u _ hu) (by kernel_rfl) (fun _ => by kernel_rfl) (fun w' hh => elem_Spot_l e2 r2 hb4 w' ) ?_
         refine TQ.look (.agg #[.int .i64 e1.key.pfs, .int .i64 e1.key.obj, .int .i64 e1.key.off, .int .i64 e1.made, .int .i64 e1.gone, .string e1.val]) (by kernel_rfl) (fun w' hh => exec_loadN (cs := [.int .i64 e1.key.pfs, .int .i64 e1.key.obj, .int .i64 e1.key.off, .int .i64 e1.made, .int .i64 e1.gone, .string e1.val]) rfl rfl (by kernel_rfl) (by kernel_rfl) (fun j u hj => (hh.box_at (i := 1) (cs := [.int .i64 e1.key.pfs, .int .i64 e1.key.obj, .int .i64 e1.key.off, .int .i64 e1.made, .int .i64 e1.gone, .string e1.val]) (by rfl) 0 j).trans (seg_at (n := 6) (by rfl) hj))) ?_
         obtain ⟨r3, hb5, hX2⟩ := Option.bind_eq_some_iff.1 hX2
         refine TQ.call (vAg eSpot) r3 25 #[.agg #[.int .i64 e1.key.pfs, .int .i64 e1.key.obj, .int .i64 e1.key.off, .int .i64 e1.made, .int .i64 e1.gone, .string e1.val]] (.agg #[.int .i64 r3.key.pfs, .int .i64 r3.key.obj, .int .i64 r3.key.off, .int .i64 r3.made]) (fun V u hu => sureSpot V u _ hu) (by kernel_rfl) (fun _ => by kernel_rfl) (fun w' hh => elem_Spot_l e1 r3 hb5 w' ) ?_
         obtain ⟨r4, hb6, hX2⟩ := Option.bind_eq_some_iff.1 hX2
         refine TQ.call (vSc eInt) r4 24 #[.agg #[.int .i64 r2.key.pfs, .int .i64 r2.key.obj, .int .i64 r2.key.off, .int .i64 r2.made], .agg #[.int .i64 r3.key.pfs, .int .i64 r3.key.obj, .int .i64 r3.key.off, .int .i64 r3.made]] (.int .i64 r4) (fun V u hu => sureInt V u _ hu) (by kernel_rfl) (fun _ => by kernel_rfl) (fun w' hh => key_CmpSpot_l r2 r3 r4 hb6 w' ) ?_
         refine TQ.pure (.bool (decide ((0 : Int) ≤ r4))) (by kernel_rfl) (fun _ => by kernel_rfl) ?_
         refine TQ.pure (.bool (decide ((0 : Int) ≤ r4))) (by kernel_rfl) (fun _ => by kernel_rfl) ?_
         cases hg1 : decide ((0 : Int) ≤ r4)
         ·
          skip
          rw [hg1, cond_false] at hX2
          refine TQ.pure (.pointer (some ⟨b2, 0, none⟩)) (by kernel_rfl) (fun _ => by kernel_rfl) ?_
          refine TQ.look (.agg #[.int .i64 e2.key.pfs, .int .i64 e2.key.obj, .int .i64 e2.key.off]) (by kernel_rfl) (fun w' hh => exec_loadN (cs := [.int .i64 e2.key.pfs, .int .i64 e2.key.obj, .int .i64 e2.key.off]) rfl rfl (by kernel_rfl) (by kernel_rfl) (fun j u hj => (hh.box_at (i := 0) (cs := [.int .i64 e2.key.pfs, .int .i64 e2.key.obj, .int .i64 e2.key.off, .int .i64 e2.made, .int .i64 e2.gone, .string e2.val]) (by rfl) 0 j).trans (seg_at (n := 3) (by rfl) hj))) ?_
          refine TQ.pure (.pointer (some ⟨b1, 0, none⟩)) (by kernel_rfl) (fun _ => by kernel_rfl) ?_
          refine TQ.look (.agg #[.int .i64 e1.key.pfs, .int .i64 e1.key.obj, .int .i64 e1.key.off]) (by kernel_rfl) (fun w' hh => exec_loadN (cs := [.int .i64 e1.key.pfs, .int .i64 e1.key.obj, .int .i64 e1.key.off]) rfl rfl (by kernel_rfl) (by kernel_rfl) (fun j u hj => (hh.box_at (i := 1) (cs := [.int .i64 e1.key.pfs, .int .i64 e1.key.obj, .int .i64 e1.key.off, .int .i64 e1.made, .int .i64 e1.gone, .string e1.val]) (by rfl) 0 j).trans (seg_at (n := 3) (by rfl) hj))) ?_
          refine TQ.look (.bool (e2.key == e1.key)) (by kernel_rfl) (fun w' hh => exec_eql_DKey e2.key e1.key w' rfl rfl rfl) ?_
          refine TQ.pure (.bool (e2.key == e1.key)) (by kernel_rfl) (fun _ => by kernel_rfl) ?_
          cases hg2 : (e2.key == e1.key)
          ·
           skip
           rw [hg2, cond_false] at hX2
           refine TQ.pass (by kernel_rfl) (by kernel_rfl) ?_
           refine TQ.pass (by kernel_rfl) (by kernel_rfl) ?_
           refine TQ.pass (by kernel_rfl) (by kernel_rfl) ?_
           refine TQ.pass (by kernel_rfl) (by kernel_rfl) ?_
           refine TQ.pass (by kernel_rfl) (by kernel_rfl) ?_
           refine TQ.pass (by kernel_rfl) (by kernel_rfl) ?_
           refine TQ.pass (by kernel_rfl) (by kernel_rfl) ?_
           refine TQ.pass (by kernel_rfl) (by kernel_rfl) ?_
           refine TQ.pass (by kernel_rfl) (by kernel_rfl) ?_
           refine TQ.pass (by kernel_rfl) (by kernel_rfl) ?_
           refine TQ.pure (.bool false) (by kernel_rfl) (fun _ => by kernel_rfl) ?_
           refine TQ.pure (.bool false) (by kernel_rfl) (fun _ => by kernel_rfl) ?_
           refine TQ.nil ?_
           cases hX2
           exact fun a w' hf hh => And.intro ((((((Fr.nil hf).pick hf 53 rfl).pick hf 12 rfl).pick hf 11 rfl).pick hf 10 rfl).pick hf 0 rfl) (hh.sub (.cons _ (.cons _ List.Sublist.slnil)))
          ·
           skip
           rw [hg2, cond_true] at hX2
           refine TQ.pure (.pointer (some ⟨b2, 4, none⟩)) (by kernel_rfl) (fun _ => by kernel_rfl) ?_
           refine TQ.look (.int .i64 e2.gone) (by kernel_rfl) (fun w' hh => exec_load1 rfl rfl (by kernel_rfl) (hh.cellBox (i := 0) (by rfl) 4)) ?_
           refine TQ.pure (.bool (e2.gone == 0)) (by kernel_rfl) (fun _ => by kernel_rfl) ?_
           refine TQ.pure (.bool (e2.gone == 0)) (by kernel_rfl) (fun _ => by kernel_rfl) ?_
           cases hg3 : (e2.gone == 0)
           ·
            skip
            rw [hg3, cond_false] at hX2
            refine TQ.pure (.pointer (some ⟨b2, 4, none⟩)) (by kernel_rfl) (fun _ => by kernel_rfl) ?_
            refine TQ.look (.int .i64 e2.gone) (by kernel_rfl) (fun w' hh => exec_load1 rfl rfl (by kernel_rfl) (hh.cellBox (i := 0) (by rfl) 4)) ?_
            refine TQ.pure (.pointer (some ⟨b1, 3, none⟩)) (by kernel_rfl) (fun _ => by kernel_rfl) ?_
            refine TQ.look (.int .i64 e1.made) (by kernel_rfl) (fun w' hh => exec_load1 rfl rfl (by kernel_rfl) (hh.cellBox (i := 1) (by rfl) 3)) ?_
            refine TQ.pure (.bool (decide (e1.made < e2.gone))) (by kernel_rfl) (fun _ => by kernel_rfl) ?_
            refine TQ.pure (.bool (decide (e1.made < e2.gone))) (by kernel_rfl) (fun _ => by kernel_rfl) ?_
            refine TQ.pure (.bool (decide (e1.made < e2.gone))) (by kernel_rfl) (fun _ => by kernel_rfl) ?_
            refine TQ.pure (.bool (decide (e1.made < e2.gone))) (by kernel_rfl) (fun _ => by kernel_rfl) ?_
            refine TQ.nil ?_
            cases hX2
            exact fun a w' hf hh => And.intro ((((((Fr.nil hf).pick hf 53 rfl).pick hf 12 rfl).pick hf 11 rfl).pick hf 10 rfl).pick hf 0 rfl) (hh.sub (.cons _ (.cons _ List.Sublist.slnil)))
           ·
            skip
            rw [hg3, cond_true] at hX2
            refine TQ.pass (by kernel_rfl) (by kernel_rfl) ?_
            refine TQ.pass (by kernel_rfl) (by kernel_rfl) ?_
            refine TQ.pass (by kernel_rfl) (by kernel_rfl) ?_
            refine TQ.pass (by kernel_rfl) (by kernel_rfl) ?_
            refine TQ.pass (by kernel_rfl) (by kernel_rfl) ?_
            refine TQ.pure (.bool true) (by kernel_rfl) (fun _ => by kernel_rfl) ?_
            refine TQ.pure (.bool true) (by kernel_rfl) (fun _ => by kernel_rfl) ?_
            refine TQ.pure (.bool true) (by kernel_rfl) (fun _ => by kernel_rfl) ?_
            refine TQ.nil ?_
            cases hX2
            exact fun a w' hf hh => And.intro ((((((Fr.nil hf).pick hf 53 rfl).pick hf 12 rfl).pick hf 11 rfl).pick hf 10 rfl).pick hf 0 rfl) (hh.sub (.cons _ (.cons _ List.Sublist.slnil)))
         ·
          skip
          rw [hg1, cond_true] at hX2
          refine TQ.pass (by kernel_rfl) (by kernel_rfl) ?_
          refine TQ.pass (by kernel_rfl) (by kernel_rfl) ?_
          refine TQ.pass (by kernel_rfl) (by kernel_rfl) ?_
          refine TQ.pass (by kernel_rfl) (by kernel_rfl) ?_
          refine TQ.pass (by kernel_rfl) (by kernel_rfl) ?_
          refine TQ.pass (by kernel_rfl) (by kernel_rfl) ?_
          refine TQ.pass (by kernel_rfl) (by kernel_rfl) ?_
          refine TQ.pass (by kernel_rfl) (by kernel_rfl) ?_
          refine TQ.pass (by kernel_rfl) (by kernel_rfl) ?_
          refine TQ.pass (by kernel_rfl) (by kernel_rfl) ?_
          refine TQ.pass (by kernel_rfl) (by kernel_rfl) ?_
          refine TQ.pass (by kernel_rfl) (by kernel_rfl) ?_
          refine TQ.pass (by kernel_rfl) (by kernel_rfl) ?_
          refine TQ.pass (by kernel_rfl) (by kernel_rfl) ?_
          refine TQ.pass (by kernel_rfl) (by kernel_rfl) ?_
          refine TQ.pass (by kernel_rfl) (by kernel_rfl) ?_
          refine TQ.pass (by kernel_rfl) (by kernel_rfl) ?_
          refine TQ.pure (.bool true) (by kernel_rfl) (fun _ => by kernel_rfl) ?_
          refine TQ.nil ?_
          cases hX2
          exact fun a w' hf hh => And.intro ((((((Fr.nil hf).pick hf 53 rfl).pick hf 12 rfl).pick hf 11 rfl).pick hf 10 rfl).pick hf 0 rfl) (hh.sub (.cons _ (.cons _ List.Sublist.slnil)))
        ·
         rintro a w' ⟨hf, hh⟩
         refine (?_ : T 55 w V4 [] [(0, .slice A1 p0.length c1), (10, .slice A1 p0.length c1), (11, .int .i64 (p0.length : Int)), (12, .int .i64 x1), (53, .bool z1)] _) a w' hf hh
         clear hf hh
         refine T.cond z1 (by kernel_rfl) (by kernel_rfl) (fun hc5 => ?_) (fun hc5 => ?_)
         ·
          rw [hc5, cond_true] at hX1
          refine T.seq ?_
          refine T.region ?_
          refine T.pure (.int .i64 3) (by kernel_rfl) (fun _ => by kernel_rfl) ?_
          refine T.nil ?_
          cases hX1
          try dsimp only at hY1
          cases hY1
          cases (hr1 _ rfl)
          try dsimp only at hF
          cases hF
          refine T.ret rfl ?_
          exact T.ret1 rfl (ResIs.tmp rfl) fun w' hh => ⟨_, rfl, hh.below, (show _ from rfl)⟩
         ·
          rw [hc5, cond_false] at hX1
          refine T.skip_code ?_
          cases hX1
          exact fun a w' hf hh => And.intro rfl (Exists.intro V4 (And.intro hV4 (And.intro (((((Fr.nil hf).pick hf 12 rfl).pick hf 11 rfl).pick hf 10 rfl).pick hf 0 rfl) (hh.sub List.Sublist.slnil))))
     ·
      rintro a w' ⟨rfl, V3, hV3, hf, hh⟩
      try dsimp only at hY1
      refine (?_ : T 55 w V3 [] [(0, .slice A1 p0.length c1), (10, .slice A1 p0.length c1), (11, .int .i64 (p0.length : Int)), (12, .int .i64 x1)] _) a w' hf hh
      clear hf hh
      refine T.region ?_
      refine T.pure (.int .i64 (IntKind.i64.wrap (x1 + 1))) (by kernel_rfl) (fun _ => by kernel_rfl) ?_
      refine T.pure (.int .i64 (IntKind.i64.wrap (x1 + 1))) (by kernel_rfl) (fun _ => by kernel_rfl) ?_
      refine T.nil ?_
      cases hY1
      exact fun a w' hf hh => Exists.intro (IntKind.i64.wrap (x1 + 1)) (And.intro rfl (Exists.intro V3 (And.intro (View.le_trans hV1 hV3) (And.intro (((((Fr.nil hf).pick hf 12 rfl).pick hf 11 rfl).pick hf 10 rfl).pick hf 0 rfl) (hh.sub List.Sublist.slnil)))))
    ·
     rw [hc2, cond_false] at hY1
     refine T.exit ?_
     cases hY1
     cases (hr1 _ rfl)
     exact fun a w' hf hh => And.intro rfl (Exists.intro V1 (And.intro hV1 (And.intro (Fr.nil hf) (hh.sub List.Sublist.slnil))))
  ·
   rintro a w' ⟨rfl, V2, hV2, hf, hh⟩
   try dsimp only at hF
   refine (?_ : T 55 w V2 [] [] _) a w' hf hh
   clear hf hh
   refine T.seq ?_
   refine T.region ?_
   refine T.pure (.int .i64 0) (by kernel_rfl) (fun _ => by kernel_rfl) ?_
   refine T.nil ?_
   cases hF
   refine T.ret rfl ?_
   exact T.ret1 rfl (ResIs.tmp rfl) fun w' hh => ⟨_, rfl, hh.below, (show _ from rfl)⟩

set_option maxRecDepth 100000 in
set_option maxHeartbeats 4000000 in
theorem run_Range_l (F : Nat) (p0 : (List DElem)) (p1 : DKey) (p2 : DKey) (p3 : Int) (r : ((List DElem)) × Int) (hF : run_Range F p0 p1 p2 p3 = some r) (w : World) (A1 : Option Addr) (c1 : Nat) (hs1 : SlOk (vw w) eElem A1 c1 p0) :
    Calls Try.prog 8 #[.slice A1 p0.length c1, .agg #[.int .i64 p1.pfs, .int .i64 p1.obj, .int .i64 p1.off], .agg #[.int .i64 p2.pfs, .int .i64 p2.obj, .int .i64 p2.off], .int .i64 p3] w (Post (vT2 (vSc (eList eElem)) (vSc eInt)) r w) := by
 unfold run_Range at hF
 refine T.start (l := [.slice A1 p0.length c1, .agg #[.int .i64 p1.pfs, .int .i64 p1.obj, .int .i64 p1.off], .agg #[.int .i64 p2.pfs, .int .i64 p2.obj, .int .i64 p2.off], .int .i64 p3]) Try.func8 rfl rfl rfl ?_
 refine T.seq ?_
 refine T.region ?_
 refine T.step (W1.new 25 [.int .i64 p1.pfs, .int .i64 p1.obj, .int .i64 p1.off] (fun b => .pointer (some ⟨b, 0, none⟩)) (by kernel_rfl) (fun _ => by kernel_rfl) (fun b1 => ?_))
 refine T.step (W1.new 25 [.int .i64 p2.pfs, .int .i64 p2.obj, .int .i64 p2.off] (fun b => .pointer (some ⟨b, 0, none⟩)) (by kernel_rfl) (fun _ => by kernel_rfl) (fun b2 => ?_))
 refine T.pure (.slice none 0 0) (by kernel_rfl) (fun _ => by kernel_rfl) ?_
 refine T.pure (.int .i64 0) (by kernel_rfl) (fun _ => by kernel_rfl) ?_
 refine T.nil ?_
 refine T.seq ?_
 refine T.seq ?_
 refine T.region ?_
 refine T.pure (.slice A1 p0.length c1) (by kernel_rfl) (fun _ => by kernel_rfl) ?_
 obtain ⟨r1, hb1, hF⟩ := Option.bind_eq_some_iff.1 hF
 refine T.step (W1.call (vSc eInt) r1 13 #[.slice A1 p0.length c1] (by kernel_rfl) (fun _ => by kernel_rfl) (fun w' hh => run_Check_l F p0 r1 hb1 w' A1 c1 (SlOk.mono hs1 hh.view)) ?_)
 intro u V1 hV1 hu
 obtain rfl := sureInt _ _ _ hu
 refine T.pure (.int .i64 r1) (by kernel_rfl) (fun _ => by kernel_rfl) ?_
 refine T.nil ?_
 refine T.seq ?_
 refine T.region ?_
 refine T.pure (.int .i64 r1) (by kernel_rfl) (fun _ => by kernel_rfl) ?_
 refine T.pure (.bool (r1 != 0)) (by kernel_rfl) (fun _ => by kernel_rfl) ?_
 refine T.nil ?_
 refine T.cond (r1 != 0) (by kernel_rfl) (by kernel_rfl) (fun hc1 => ?_) (fun hc1 => ?_)
 ·
  rw [hc1, cond_true] at hF
  refine T.seq ?_
  refine T.region ?_
  refine T.pure (.int .i64 r1) (by kernel_rfl) (fun _ => by kernel_rfl) ?_
  refine T.pure (.slice none 0 0) (by kernel_rfl) (fun _ => by kernel_rfl) ?_
  refine T.pure (.int .i64 r1) (by kernel_rfl) (fun _ => by kernel_rfl) ?_
  refine T.nil ?_
  cases hF
  refine T.ret rfl ?_
  exact T.ret2 rfl (ResIs.tmp rfl) (ResIs.tmp rfl) fun w' hh => ⟨_, rfl, hh.below, (vT2.mk ⟨_, _, rfl, (SlOk.nil _ _)⟩ (show _ from rfl))⟩
 ·
  rw [hc1, cond_false] at hF
  refine T.skip_code ?_
  refine T.seq ?_
  refine T.seq ?_
  refine T.region ?_
  refine T.look (.agg #[.int .i64 p1.pfs, .int .i64 p1.obj, .int .i64 p1.off]) (by kernel_rfl) (fun w' hh => exec_loadN (cs := [.int .i64 p1.pfs, .int .i64 p1.obj, .int .i64 p1.off]) rfl rfl (by kernel_rfl) (by kernel_rfl) (fun j u hj => (hh.box_at (i := 1) (cs := [.int .i64 p1.pfs, .int .i64 p1.obj, .int .i64 p1.off]) (by rfl) 0 j).trans (seg_at (n := 3) (by rfl) hj))) ?_
  obtain ⟨r2, hb2, hF⟩ := Option.bind_eq_some_iff.1 hF
  refine T.step (W1.call (vSc eInt) r2 17 #[.agg #[.int .i64 p1.pfs, .int .i64 p1.obj, .int .i64 p1.off]] (by kernel_rfl) (fun _ => by kernel_rfl) (fun w' hh => key_Check_l p1 r2 hb2 w' ) ?_)
  intro u V2 hV2 hu
  obtain rfl := sureInt _ _ _ hu
  refine T.pure (.int .i64 r2) (by kernel_rfl) (fun _ => by kernel_rfl) ?_
  refine T.nil ?_
  refine T.seq ?_
  refine T.region ?_
  refine T.pure (.int .i64 r2) (by kernel_rfl) (fun _ => by kernel_rfl) ?_
  refine T.pure (.bool (r2 != 0)) (by kernel_rfl) (fun _ => by kernel_rfl) ?_
  refine T.nil ?_
  refine T.cond (r2 != 0) (by kernel_rfl) (by kernel_rfl) (fun hc2 => ?_) (fun hc2 => ?_)
  ·
   rw [hc2, cond_true] at hF
   refine T.seq ?_
   refine T.region ?_
   refine T.pure (.int .i64 r2) (by kernel_rfl) (fun _ => by kernel_rfl) ?_
   refine T.pure (.slice none 0 0) (by kernel_rfl) (fun _ => by kernel_rfl) ?_
   refine T.pure (.int .i64 r2) (by kernel_rfl) (fun _ => by kernel_rfl) ?_
   refine T.nil ?_
   cases hF
   refine T.ret rfl ?_
   exact T.ret2 rfl (ResIs.tmp rfl) (ResIs.tmp rfl) fun w' hh => ⟨_, rfl, hh.below, (vT2.mk ⟨_, _, rfl, (SlOk.nil _ _)⟩ (show _ from rfl))⟩
  ·
   rw [hc2, cond_false] at hF
   refine T.skip_code ?_
   refine T.seq ?_
   refine T.seq ?_
   refine T.region ?_
   refine T.look (.agg #[.int .i64 p2.pfs, .int .i64 p2.obj, .int .i64 p2.off]) (by kernel_rfl) (fun w' hh => exec_loadN (cs := [.int .i64 p2.pfs, .int .i64 p2.obj, .int .i64 p2.off]) rfl rfl (by kernel_rfl) (by kernel_rfl) (fun j u hj => (hh.box_at (i := 0) (cs := [.int .i64 p2.pfs, .int .i64 p2.obj, .int .i64 p2.off]) (by rfl) 0 j).trans (seg_at (n := 3) (by rfl) hj))) ?_
   obtain ⟨r3, hb3, hF⟩ := Option.bind_eq_some_iff.1 hF
   refine T.step (W1.call (vSc eInt) r3 17 #[.agg #[.int .i64 p2.pfs, .int .i64 p2.obj, .int .i64 p2.off]] (by kernel_rfl) (fun _ => by kernel_rfl) (fun w' hh => key_Check_l p2 r3 hb3 w' ) ?_)
   intro u V3 hV3 hu
   obtain rfl := sureInt _ _ _ hu
   refine T.pure (.int .i64 r3) (by kernel_rfl) (fun _ => by kernel_rfl) ?_
   refine T.nil ?_
   refine T.seq ?_
   refine T.region ?_
   refine T.pure (.int .i64 r3) (by kernel_rfl) (fun _ => by kernel_rfl) ?_
   refine T.pure (.bool (r3 != 0)) (by kernel_rfl) (fun _ => by kernel_rfl) ?_
   refine T.nil ?_
   refine T.cond (r3 != 0) (by kernel_rfl) (by kernel_rfl) (fun hc3 => ?_) (fun hc3 => ?_)
   ·
    rw [hc3, cond_true] at hF
    refine T.seq ?_
    refine T.region ?_
    refine T.pure (.int .i64 r3) (by kernel_rfl) (fun _ => by kernel_rfl) ?_
    refine T.pure (.slice none 0 0) (by kernel_rfl) (fun _ => by kernel_rfl) ?_
    refine T.pure (.int .i64 r3) (by kernel_rfl) (fun _ => by kernel_rfl) ?_
    refine T.nil ?_
    cases hF
    refine T.ret rfl ?_
    exact T.ret2 rfl (ResIs.tmp rfl) (ResIs.tmp rfl) fun w' hh => ⟨_, rfl, hh.below, (vT2.mk ⟨_, _, rfl, (SlOk.nil _ _)⟩ (show _ from rfl))⟩
   ·
    rw [hc3, cond_false] at hF
    refine T.skip_code ?_
    refine T.seq ?_
    refine T.region ?_
    refine T.pure (.slice none 0 0) (by kernel_rfl) (fun _ => by kernel_rfl) ?_
    refine T.nil ?_
    refine T.seq ?_
    refine T.seq ?_
    refine T.region ?_
    refine T.pure (.slice A1 p0.length c1) (by kernel_rfl) (fun _ => by kernel_rfl) ?_
    refine T.pure (.int .i64 (p0.length : Int)) (by kernel_rfl) (fun _ => by kernel_rfl) ?_
    refine T.pure (.int .i64 0) (by kernel_rfl) (fun _ => by kernel_rfl) ?_
    refine T.nil ?_
    refine T.rownil 40 eElem ?_
    obtain ⟨z1, hz1, hF⟩ := Option.bind_eq_some_iff.1 hF
    refine T.mid (fun a w' => ∃ (A3 : Option Addr) (c3 : Nat) (V5 : View), View.le V3 V5 ∧ Fr 60 [(13, .slice A3 z1.length c3)] a ∧ Hp w V5 [row 40 eElem A3 c3 z1] w') ?_ ?_
    ·
     refine T.block ?_
     refine T.iter (fun s1 a w' => ∃ (x1 : List DElem) (x2 : Int), s1 = (x1, x2) ∧ ∃ (A2 : Option Addr) (c2 : Nat) (V4 : View), View.le V3 V4 ∧ Fr 60 [(3, .int .i64 p3), (5, .pointer (some ⟨b1, 0, none⟩)), (6, .pointer (some ⟨b2, 0, none⟩)), (13, .slice A2 x1.length c2), (31, .slice A1 p0.length c1), (32, .int .i64 (p0.length : Int)), (33, .int .i64 x2)] a ∧ Hp w V4 [row 40 eElem A2 c2 x1, box b2 25 [.int .i64 p2.pfs, .int .i64 p2.obj, .int .i64 p2.off], box b1 25 [.int .i64 p1.pfs, .int .i64 p1.obj, .int .i64 p1.off]] w') hz1 ?_ ?_
     ·
      exact fun a w' hf hh => Exists.intro [] (Exists.intro 0 (And.intro rfl (Exists.intro none (Exists.intro 0 (Exists.intro V3 (And.intro (View.le_refl _) (And.intro ((((((((Fr.nil hf).pick hf 33 rfl).pick hf 32 rfl).pick hf 31 rfl).pick hf 13 rfl).pick hf 6 rfl).pick hf 5 rfl).pick hf 3 rfl) (hh.sub (.cons_cons _ (.cons_cons _ (.cons_cons _ List.Sublist.slnil)))))))))))
     ·
      rintro s1 y1 hY1 hr1 a w' ⟨x1, x2, rfl, A2, c2, V4, hV4, hf, hh⟩
      refine (?_ : T 60 w V4 [row 40 eElem A2 c2 x1, box b2 25 [.int .i64 p2.pfs, .int .i64 p2.obj, .int .i64 p2.off], box b1 25 [.int .i64 p1.pfs, .int .i64 p1.obj, .int .i64 p1.off]] [(3, .int .i64 p3), (5, .pointer (some ⟨b1, 0, none⟩)), (6, .pointer (some ⟨b2, 0, none⟩)), (13, .slice A2 x1.length c2), (31, .slice A1 p0.length c1), (32, .int .i64 (p0.length : Int)), (33, .int .i64 x2)] _) a w' hf hh
      clear hf hh
      try dsimp only at hY1
      refine T.seq ?_
      refine T.region ?_
      refine T.pure (.bool (decide (x2 < (p0.length : Int)))) (by kernel_rfl) (fun _ => by kernel_rfl) ?_
      refine T.nil ?_
      refine T.seq ?_
      refine T.cond (decide (x2 < (p0.length : Int))) (by kernel_rfl) (by kernel_rfl) (fun hc4 => ?_) (fun hc4 => ?_)
      ·
       rw [hc4, cond_true] at hY1
       refine T.skip_code ?_
       obtain ⟨z2, hX1, hY1⟩ := Option.bind_eq_some_iff.1 hY1
       refine T.cut (fun a w' => ∃ (A4 : Option Addr) (c4 : Nat) (V6 : View), View.le V4 V6 ∧ Fr 60 [(3, .int .i64 p3), (5, .pointer (some ⟨b1, 0, none⟩)), (6, .pointer (some ⟨b2, 0, none⟩)), (13, .slice A4 z2.length c4), (31, .slice A1 p0.length c1), (32, .int .i64 (p0.length : Int)), (33, .int .i64 x2)] a ∧ Hp w V6 [row 40 eElem A4 c4 z2, box b2 25 [.int .i64 p2.pfs, .int .i64 p2.obj, .int .i64 p2.off], box b1 25 [.int .i64 p1.pfs, .int .i64 p1.obj, .int .i64 p1.off]] w') ?_ ?_
       ·
        refine T.block ?_
        refine T.seq ?_
        refine T.region ?_
        obtain ⟨e1, hb4, hX1⟩ := Option.bind_eq_some_iff.1 hX1
        obtain ⟨hi1, hi2, hi3⟩ := idx_some hb4
        refine T.look (.pointer (some ((sadr A1).add (x2.toNat * 6)))) (by kernel_rfl) (fun w' hh => exec_indexAddr (e := 40) (s := 6) rfl rfl rfl (by kernel_rfl) (by kernel_rfl) hi1 hi2 ((SlOk.mono hs1 (View.le_trans (View.le_trans (View.le_trans hV1 hV2) hV3) hV4)).some_ hi3 (by decide))) ?_
        refine T.look (.agg #[.int .i64 e1.key.pfs, .int .i64 e1.key.obj, .int .i64 e1.key.off, .int .i64 e1.made, .int .i64 e1.gone, .string e1.val]) (by kernel_rfl) (fun w' hh => exec_loadN (cs := [.int .i64 e1.key.pfs, .int .i64 e1.key.obj, .int .i64 e1.key.off, .int .i64 e1.made, .int .i64 e1.gone, .string e1.val]) rfl rfl (by kernel_rfl) (by kernel_rfl) (fun j u hj => (hh.cell_view (SlOk.cellF (E := eElem) (SlOk.mono hs1 (View.le_trans (View.le_trans (View.le_trans hV1 hV2) hV3) hV4)) hi3 j (fun _ _ _ h => h) hj)))) ?_
        refine T.step (W1.new 40 [.int .i64 0, .int .i64 0, .int .i64 0, .int .i64 0, .int .i64 0, .string (ByteArray.mk #[])] (fun b => .pointer (some ⟨b, 0, none⟩)) (by kernel_rfl) (fun _ => by kernel_rfl) (fun b3 => ?_))
        refine T.step (W1.store 0 [.int .i64 e1.key.pfs, .int .i64 e1.key.obj, .int .i64 e1.key.off, .int .i64 e1.made, .int .i64 e1.gone, .string e1.val] [box b3 40 [.int .i64 e1.key.pfs, .int .i64 e1.key.obj, .int .i64 e1.key.off, .int .i64 e1.made, .int .i64 e1.gone, .string e1.val], row 40 eElem A2 c2 x1, box b2 25 [.int .i64 p2.pfs, .int .i64 p2.obj, .int .i64 p2.off], box b1 25 [.int .i64 p1.pfs, .int .i64 p1.obj, .int .i64 p1.off]] (by rfl) rfl (by kernel_rfl) (fun w' hw => exec_store (vs := [.int .i64 e1.key.pfs, .int .i64 e1.key.obj, .int .i64 e1.key.off, .int .i64 e1.made, .int .i64 e1.gone, .string e1.val]) rfl rfl rfl rfl (by kernel_rfl) (one_of rfl) (by simp) rfl hw) ?_)
        refine T.nil ?_
        obtain ⟨z3, hX2, hX1⟩ := Option.bind_eq_some_iff.1 hX1
        refine T.cut (fun a w' => ∃ (V7 : View), View.le V4 V7 ∧ Fr 60 [(3, .int .i64 p3), (5, .pointer (some ⟨b1, 0, none⟩)), (6, .pointer (some ⟨b2, 0, none⟩)), (13, .slice A2 x1.length c2), (15, .pointer (some ⟨b3, 0, none⟩)), (31, .slice A1 p0.length c1), (32, .int .i64 (p0.length : Int)), (33, .int .i64 x2), (53, .bool z3)] a ∧ Hp w V7 [box b3 40 [.int .i64 e1.key.pfs, .int .i64 e1.key.obj, .int .i64 e1.key.off, .int .i64 e1.made, .int .i64 e1.gone, .string e1.val], row 40 eElem A2 c2 x1, box b2 25 [.int .i64 p2.pfs, .int .i64 p2.obj, .int .i64 p2.off], box b1 25 [.int .i64 p1.pfs, .int .i64 p1.obj, .int .i64 p1.off]] w') ?_ ?_
        ·
         refine T.region ?_
         refine T.look (.agg #[.int .i64 p1.pfs, .int .i64 p1.obj, .int .i64 p1.off]) (by kernel_rfl) (fun w' hh => exec_loadN (cs := [.int .i64 p1.pfs, .int .i64 p1.obj, .int .i64 p1.off]) rfl rfl (by kernel_rfl) (by kernel_rfl) (fun j u hj => (hh.box_at (i := 3) (cs := [.int .i64 p1.pfs, .int .i64 p1.obj, .int .i64 p1.off]) (by rfl) 0 j).trans (seg_at (n := 3) (by rfl) hj))) ?_
         refine T.pure (.pointer (some ⟨b3, 0, none⟩)) (by kernel_rfl) (fun _ => by kernel_rfl) ?_
         refine T.look (.agg #[.int .i64 e1.key.pfs, .int .i64 e1.key.obj, .int .i64 e1.key.off]) (by kernel_rfl) (fun w' hh => exec_loadN (cs := [.int .i64 e1.key.pfs, .int .i64 e1.key.obj, .int .i64 e1.key.off]) rfl rfl (by kernel_rfl) (by kernel_rfl) (fun j u hj => (hh.box_at (i := 0) (cs := [.int .i64 e1.key.pfs, .int .i64 e1.key.obj, .int .i64 e1.key.off, .int .i64 e1.made, .int .i64 e1.gone, .string e1.val]) (by rfl) 0 j).trans (seg_at (n := 3) (by rfl) hj))) ?_
         obtain ⟨r5, hb5, hX2⟩ := Option.bind_eq_some_iff.1 hX2
         refine T.step (W1.call (vSc eInt) r5 18 #[.agg #[.int .i64 p1.pfs, .int .i64 p1.obj, .int .i64 p1.off], .agg #[.int .i64 e1.key.pfs, .int .i64 e1.key.obj, .int .i64 e1.key.off]] (by kernel_rfl) (fun _ => by kernel_rfl) (fun w' hh => key_Cmp_l p1 e1.key r5 hb5 w' ) ?_)
         intro u V8 hV8 hu
         obtain rfl := sureInt _ _ _ hu
         refine T.pure (.bool (decide (r5 ≤ 0))) (by kernel_rfl) (fun _ => by kernel_rfl) ?_
         refine T.pure (.bool (decide (r5 ≤ 0))) (by kernel_rfl) (fun _ => by kernel_rfl) ?_
         cases hg1 : decide (r5 ≤ 0)
         ·
          skip
          rw [hg1, cond_false] at hX2
          refine T.pass (by kernel_rfl) (by kernel_rfl) ?_
          refine T.pass (by kernel_rfl) (by kernel_rfl) ?_
          refine T.pass (by kernel_rfl) (by kernel_rfl) ?_
          refine T.pass (by kernel_rfl) (by kernel_rfl) ?_
          refine T.pass (by kernel_rfl) (by kernel_rfl) ?_
          refine T.pure (.bool false) (by kernel_rfl) (fun _ => by kernel_rfl) ?_
          refine T.pure (.bool false) (by kernel_rfl) (fun _ => by kernel_rfl) ?_
          refine T.pass (by kernel_rfl) (by kernel_rfl) ?_
          refine T.pass (by kernel_rfl) (by kernel_rfl) ?_
          refine T.pass (by kernel_rfl) (by kernel_rfl) ?_
          refine T.pure (.bool false) (by kernel_rfl) (fun _ => by kernel_rfl) ?_
          refine T.nil ?_
          cases hX2
          exact fun a w' hf hh => Exists.intro V8 (And.intro hV8 (And.intro ((((((((((Fr.nil hf).pick hf 53 rfl).pick hf 33 rfl).pick hf 32 rfl).pick hf 31 rfl).pick hf 15 rfl).pick hf 13 rfl).pick hf 6 rfl).pick hf 5 rfl).pick hf 3 rfl) (hh.sub (.cons_cons _ (.cons_cons _ (.cons_cons _ (.cons_cons _ List.Sublist.slnil)))))))
         ·
          skip
          rw [hg1, cond_true] at hX2
          refine T.pure (.pointer (some ⟨b3, 0, none⟩)) (by kernel_rfl) (fun _ => by kernel_rfl) ?_
          refine T.look (.agg #[.int .i64 e1.key.pfs, .int .i64 e1.key.obj, .int .i64 e1.key.off]) (by kernel_rfl) (fun w' hh => exec_loadN (cs := [.int .i64 e1.key.pfs, .int .i64 e1.key.obj, .int .i64 e1.key.off]) rfl rfl (by kernel_rfl) (by kernel_rfl) (fun j u hj => (hh.box_at (i := 0) (cs := [.int .i64 e1.key.pfs, .int .i64 e1.key.obj, .int .i64 e1.key.off, .int .i64 e1.made, .int .i64 e1.gone, .string e1.val]) (by rfl) 0 j).trans (seg_at (n := 3) (by rfl) hj))) ?_
          refine T.look (.agg #[.int .i64 p2.pfs, .int .i64 p2.obj, .int .i64 p2.off]) (by kernel_rfl) (fun w' hh => exec_loadN (cs := [.int .i64 p2.pfs, .int .i64 p2.obj, .int .i64 p2.off]) rfl rfl (by kernel_rfl) (by kernel_rfl) (fun j u hj => (hh.box_at (i := 2) (cs := [.int .i64 p2.pfs, .int .i64 p2.obj, .int .i64 p2.off]) (by rfl) 0 j).trans (seg_at (n := 3) (by rfl) hj))) ?_
          obtain ⟨r6, hb6, hX2⟩ := Option.bind_eq_some_iff.1 hX2
          refine T.step (W1.call (vSc eInt) r6 18 #[.agg #[.int .i64 e1.key.pfs, .int .i64 e1.key.obj, .int .i64 e1.key.off], .agg #[.int .i64 p2.pfs, .int .i64 p2.obj, .int .i64 p2.off]] (by kernel_rfl) (fun _ => by kernel_rfl) (fun w' hh => key_Cmp_l e1.key p2 r6 hb6 w' ) ?_)
          intro u V9 hV9 hu
          obtain rfl := sureInt _ _ _ hu
          refine T.pure (.bool (decide (r6 ≤ 0))) (by kernel_rfl) (fun _ => by kernel_rfl) ?_
          refine T.pure (.bool (decide (r6 ≤ 0))) (by kernel_rfl) (fun _ => by kernel_rfl) ?_
          refine T.pure (.bool (decide (r6 ≤ 0))) (by kernel_rfl) (fun _ => by kernel_rfl) ?_
          cases hg2 : decide (r6 ≤ 0)
          ·
           skip
           rw [hg2, cond_false] at hX2
           refine T.pass (by kernel_rfl) (by kernel_rfl) ?_
           refine T.pass (by kernel_rfl) (by kernel_rfl) ?_
           refine T.pass (by kernel_rfl) (by kernel_rfl) ?_
           refine T.pure (.bool false) (by kernel_rfl) (fun _ => by kernel_rfl) ?_
           refine T.nil ?_
           cases hX2
           exact fun a w' hf hh => Exists.intro V9 (And.intro (View.le_trans hV8 hV9) (And.intro ((((((((((Fr.nil hf).pick hf 53 rfl).pick hf 33 rfl).pick hf 32 rfl).pick hf 31 rfl).pick hf 15 rfl).pick hf 13 rfl).pick hf 6 rfl).pick hf 5 rfl).pick hf 3 rfl) (hh.sub (.cons_cons _ (.cons_cons _ (.cons_cons _ (.cons_cons _ List.Sublist.slnil)))))))
          ·
           skip
           rw [hg2, cond_true] at hX2
           refine T.look (.agg #[.int .i64 e1.key.pfs, .int .i64 e1.key.obj, .int .i64 e1.key.off, .int .i64 e1.made, .int .i64 e1.gone, .string e1.val]) (by kernel_rfl) (fun w' hh => exec_loadN (cs := [.int .i64 e1.key.pfs, .int .i64 e1.key.obj, .int .i64 e1.key.off, .int .i64 e1.made, .int .i64 e1.gone, .string e1.val]) rfl rfl (by kernel_rfl) (by kernel_rfl) (fun j u hj => (hh.box_at (i := 0) (cs := [.int .i64 e1.key.pfs, .int .i64 e1.key.obj, .int .i64 e1.key.off, .int .i64 e1.made, .int .i64 e1.gone, .string e1.val]) (by rfl) 0 j).trans (seg_at (n := 6) (by rfl) hj))) ?_
           refine T.pure (.int .i64 p3) (by kernel_rfl) (fun _ => by kernel_rfl) ?_
           obtain ⟨r7, hb7, hX2⟩ := Option.bind_eq_some_iff.1 hX2
           refine T.step (W1.call (vSc eBool) r7 19 #[.agg #[.int .i64 e1.key.pfs, .int .i64 e1.key.obj, .int .i64 e1.key.off, .int .i64 e1.made, .int .i64 e1.gone, .string e1.val], .int .i64 p3] (by kernel_rfl) (fun _ => by kernel_rfl) (fun w' hh => elem_Live_l e1 p3 r7 hb7 w' ) ?_)
           intro u V10 hV10 hu
           obtain rfl := sureBool _ _ _ hu
           refine T.pure (.bool r7) (by kernel_rfl) (fun _ => by kernel_rfl) ?_
           refine T.nil ?_
           cases hX2
           exact fun a w' hf hh => Exists.intro V10 (And.intro (View.le_trans (View.le_trans hV8 hV9) hV10) (And.intro ((((((((((Fr.nil hf).pick hf 53 rfl).pick hf 33 rfl).pick hf 32 rfl).pick hf 31 rfl).pick hf 15 rfl).pick hf 13 rfl).pick hf 6 rfl).pick hf 5 rfl).pick hf 3 rfl) (hh.sub (.cons_cons _ (.cons_cons _ (.cons_cons _ (.cons_cons _ List.Sublist.slnil)))))))
        ·
         rintro a w' ⟨V7, hV7, hf, hh⟩
         refine (?_ : T 60 w V7 [box b3 40 [.int .i64 e1.key.pfs, .int .i64 e1.key.obj, .int .i64 e1.key.off, .int .i64 e1.made, .int .i64 e1.gone, .string e1.val], row 40 eElem A2 c2 x1, box b2 25 [.int .i64 p2.pfs, .int .i64 p2.obj, .int .i64 p2.off], box b1 25 [.int .i64 p1.pfs, .int .i64 p1.obj, .int .i64 p1.off]] [(3, .int .i64 p3), (5, .pointer (some ⟨b1, 0, none⟩)), (6, .pointer (some ⟨b2, 0, none⟩)), (13, .slice A2 x1.length c2), (15, .pointer (some ⟨b3, 0, none⟩)), (31, .slice A1 p0.length c1), (32, .int .i64 (p0.length : Int)), (33, .int .i64 x2), (53, .bool z3)] _) a w' hf hh
         clear hf hh
         refine T.cond z3 (by kernel_rfl) (by kernel_rfl) (fun hc5 => ?_) (fun hc5 => ?_)
         ·
          rw [hc5, cond_true] at hX1
          refine T.region ?_
          refine T.pure (.slice A2 x1.length c2) (by kernel_rfl) (fun _ => by kernel_rfl) ?_
          refine T.look (.agg #[.int .i64 e1.key.pfs, .int .i64 e1.key.obj, .int .i64 e1.key.off, .int .i64 e1.made, .int .i64 e1.gone, .string e1.val]) (by kernel_rfl) (fun w' hh => exec_loadN (cs := [.int .i64 e1.key.pfs, .int .i64 e1.key.obj, .int .i64 e1.key.off, .int .i64 e1.made, .int .i64 e1.gone, .string e1.val]) rfl rfl (by kernel_rfl) (by kernel_rfl) (fun j u hj => (hh.box_at (i := 0) (cs := [.int .i64 e1.key.pfs, .int .i64 e1.key.obj, .int .i64 e1.key.off, .int .i64 e1.made, .int .i64 e1.gone, .string e1.val]) (by rfl) 0 j).trans (seg_at (n := 6) (by rfl) hj))) ?_
          refine T.step (W1.new 40 [.int .i64 e1.key.pfs, .int .i64 e1.key.obj, .int .i64 e1.key.off, .int .i64 e1.made, .int .i64 e1.gone, .string e1.val] (fun b => .slice (some ⟨b, 0, none⟩) 1 1) (by kernel_rfl) (fun _ => by kernel_rfl) (fun b4 => ?_))
          obtain ⟨y2, hb8, hX1⟩ := Option.bind_eq_some_iff.1 hX1
          obtain ⟨hb8_r, hb8_m, rfl⟩ := grow_some hb8
          obtain ⟨ti, hti, hz1, hz2, hz3⟩ := info_parts (P := Try.prog) (e := 40) (z := .agg #[.int .i64 0, .int .i64 0, .int .i64 0, .int .i64 0, .int .i64 0, .string (ByteArray.mk #[])]) (size := 6) (bytes := 56) (by kernel_rfl)
          refine T.step (W1.append (E := eElem) (l := x1) (m := [e1]) 2 _ _ 56 ti _ (by rfl) (by kernel_rfl) rfl (by kernel_rfl) hti hz1 hz2 hz3 rfl (by decide) rfl rfl (fun w' hh => (SlOk.srcF (slok_lit (E := eElem) (f := DElem.cells) [e1] (fun _ _ => rfl) (Nat.le_of_ble_eq_true (by rfl)) (fun j => hh.cellBox (i := 0) (by rfl) j)) (fun _ _ _ _ h => h))) hb8_r hb8_m (fun A5 c5 => ?_))
          refine T.pure (.slice A5 ((x1 ++ [e1]).length) c5) (by kernel_rfl) (fun _ => by kernel_rfl) ?_
          refine T.nil ?_
          cases hX1
          exact fun a w' hf hh => Exists.intro A5 (Exists.intro c5 (Exists.intro V7 (And.intro hV7 (And.intro ((((((((Fr.nil hf).pick hf 33 rfl).pick hf 32 rfl).pick hf 31 rfl).pick hf 13 rfl).pick hf 6 rfl).pick hf 5 rfl).pick hf 3 rfl) (hh.sub (.cons _ (.cons _ (.cons_cons _ (.cons_cons _ (.cons_cons _ List.Sublist.slnil))))))))))
         ·
          rw [hc5, cond_false] at hX1
          refine T.skip_code ?_
          cases hX1
          exact fun a w' hf hh => Exists.intro A2 (Exists.intro c2 (Exists.intro V7 (And.intro hV7 (And.intro ((((((((Fr.nil hf).pick hf 33 rfl).pick hf 32 rfl).pick hf 31 rfl).pick hf 13 rfl).pick hf 6 rfl).pick hf 5 rfl).pick hf 3 rfl) (hh.sub (.cons _ (.cons_cons _ (.cons_cons _ (.cons_cons _ List.Sublist.slnil)))))))))
       ·
        rintro a w' ⟨A4, c4, V6, hV6, hf, hh⟩
        refine (?_ : T 60 w V6 [row 40 eElem A4 c4 z2, box b2 25 [.int .i64 p2.pfs, .int .i64 p2.obj, .int .i64 p2.off], box b1 25 [.int .i64 p1.pfs, .int .i64 p1.obj, .int .i64 p1.off]] [(3, .int .i64 p3), (5, .pointer (some ⟨b1, 0, none⟩)), (6, .pointer (some ⟨b2, 0, none⟩)), (13, .slice A4 z2.length c4), (31, .slice A1 p0.length c1), (32, .int .i64 (p0.length : Int)), (33, .int .i64 x2)] _) a w' hf hh
        clear hf hh
        refine T.region ?_
        refine T.pure (.int .i64 (IntKind.i64.wrap (x2 + 1))) (by kernel_rfl) (fun _ => by kernel_rfl) ?_
        refine T.pure (.int .i64 (IntKind.i64.wrap (x2 + 1))) (by kernel_rfl) (fun _ => by kernel_rfl) ?_
        refine T.nil ?_
        cases hY1
        exact fun a w' hf hh => Exists.intro (z2, IntKind.i64.wrap (x2 + 1)) (And.intro rfl (Exists.intro z2 (Exists.intro (IntKind.i64.wrap (x2 + 1)) (And.intro rfl (Exists.intro A4 (Exists.intro c4 (Exists.intro V6 (And.intro (View.le_trans hV4 hV6) (And.intro ((((((((Fr.nil hf).pick hf 33 rfl).pick hf 32 rfl).pick hf 31 rfl).pick hf 13 rfl).pick hf 6 rfl).pick hf 5 rfl).pick hf 3 rfl) (hh.sub (.cons_cons _ (.cons_cons _ (.cons_cons _ List.Sublist.slnil)))))))))))))
      ·
       rw [hc4, cond_false] at hY1
       refine T.exit ?_
       cases hY1
       cases (hr1 _ rfl)
       exact fun a w' hf hh => Exists.intro A2 (Exists.intro c2 (Exists.intro V4 (And.intro hV4 (And.intro ((Fr.nil hf).pick hf 13 rfl) (hh.sub (.cons_cons _ (.cons _ (.cons _ List.Sublist.slnil))))))))
    ·
     rintro a w' ⟨A3, c3, V5, hV5, hf, hh⟩
     refine (?_ : T 60 w V5 [row 40 eElem A3 c3 z1] [(13, .slice A3 z1.length c3)] _) a w' hf hh
     clear hf hh
     refine T.seq ?_
     refine T.region ?_
     refine T.pure (.slice A3 z1.length c3) (by kernel_rfl) (fun _ => by kernel_rfl) ?_
     refine T.pure (.slice A3 z1.length c3) (by kernel_rfl) (fun _ => by kernel_rfl) ?_
     refine T.pure (.int .i64 0) (by kernel_rfl) (fun _ => by kernel_rfl) ?_
     refine T.nil ?_
     cases hF
     refine T.ret rfl ?_
     exact T.ret2 rfl (ResIs.tmp rfl) (ResIs.tmp rfl) fun w' hh => ⟨_, rfl, hh.below, (vT2.mk ⟨_, _, rfl, (hh.row_fresh (i := 0) (by rfl) (fun _ h => h))⟩ (show _ from rfl))⟩

end Go.Proofs.Ytaodaihoglcinad
