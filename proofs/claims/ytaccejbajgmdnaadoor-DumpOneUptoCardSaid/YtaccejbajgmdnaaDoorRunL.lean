/- The Go functions of group Run compute the pure functions of that group: written by walkgen.py. Condition of each: the pure function yields a result. -/
import Derived.Test.YtaccejbajgmdnaaDoorKeyL
import Derived.Test.YtaccejbajgmdnaaDoorRunF
import Derived.Test.YtaccejbajgmdnaaDoorEqL
namespace Go.Proofs.YtaccejbajgmdnaaDoor
set_option linter.unusedVariables false

set_option maxRecDepth 100000 in
set_option maxHeartbeats 4000000 in
theorem run_Check_l (F : Nat) (p0 : (List DElem)) (r : Int) (hF : run_Check F p0 = some r) (w : World) (A1 : Option Addr) (c1 : Nat) (hs1 : SlOk (vw w) eElem A1 c1 p0) :
    Calls Tryd.prog 15 #[.slice A1 p0.length c1] w (Post (vSc eInt) r w) := by
 unfold run_Check at hF
 refine T.start (l := [.slice A1 p0.length c1]) Tryd.func15 rfl rfl rfl ?_
 refine T.seq ?_
 refine T.region ?_
 refine T.pure (.int .i64 0) (by kernel_rfl) (fun _ => by kernel_rfl) ?_
 refine T.nil ?_
 refine T.seq ?_
 refine T.seq ?_
 refine T.region ?_
 refine T.pure (.slice A1 p0.length c1) (by kernel_rfl) (fun _ => by kernel_rfl) ?_
 refine T.pure (.int .i64 (p0.length : Int)) (by kernel_rfl) (fun _ => by kernel_rfl) ?_
 refine T.pure (.bool (decide ((400 : Int) < (p0.length : Int)))) (by kernel_rfl) (fun _ => by kernel_rfl) ?_
 refine T.nil ?_
 refine T.cond (decide ((400 : Int) < (p0.length : Int))) (by kernel_rfl) (by kernel_rfl) (fun hc1 => ?_) (fun hc1 => ?_)
 ·
  rw [hc1, cond_true] at hF
  refine T.seq ?_
  refine T.region ?_
  refine T.pure (.int .i64 2) (by kernel_rfl) (fun _ => by kernel_rfl) ?_
  refine T.nil ?_
  cases hF
  refine T.ret rfl ?_
  exact T.ret1 rfl (ResIs.tmp rfl) fun w' hh => ⟨_, rfl, hh.below, (show _ from rfl)⟩
 ·
  rw [hc1, cond_false] at hF
  refine T.skip_code ?_
  refine T.seq ?_
  refine T.seq ?_
  refine T.region ?_
  refine T.pure (.slice A1 p0.length c1) (by kernel_rfl) (fun _ => by kernel_rfl) ?_
  refine T.pure (.int .i64 (p0.length : Int)) (by kernel_rfl) (fun _ => by kernel_rfl) ?_
  refine T.pure (.int .i64 0) (by kernel_rfl) (fun _ => by kernel_rfl) ?_
  refine T.nil ?_
  obtain ⟨q1, hz1, hF⟩ := Option.bind_eq_some_iff.1 hF
  refine T.mid (fun a w' => q1 = Sum.inl () ∧ ∃ (V2 : View), View.le (vw w) V2 ∧ Fr 55 [] a ∧ Hp w V2 [] w') ?_ ?_
  ·
   refine T.block ?_
   refine T.iter (fun x1 a w' => ∃ (V1 : View), View.le (vw w) V1 ∧ Fr 55 [(0, .slice A1 p0.length c1), (10, .slice A1 p0.length c1), (11, .int .i64 (p0.length : Int)), (12, .int .i64 x1)] a ∧ Hp w V1 [] w') hz1 ?_ ?_
   ·
    exact fun a w' hf hh => Exists.intro (vw w) (And.intro (View.le_refl _) (And.intro (((((Fr.nil hf).pick hf 12 rfl).pick hf 11 rfl).pick hf 10 rfl).pick hf 0 rfl) (hh.sub List.Sublist.slnil)))
   ·
    rintro x1 y1 hY1 hr1 a w' ⟨V1, hV1, hf, hh⟩
    refine (?_ : T 55 w V1 [] [(0, .slice A1 p0.length c1), (10, .slice A1 p0.length c1), (11, .int .i64 (p0.length : Int)), (12, .int .i64 x1)] _) a w' hf hh
    clear hf hh
    try dsimp only at hY1
    refine T.seq ?_
    refine T.region ?_
    refine T.pure (.bool (decide (x1 < (p0.length : Int)))) (by kernel_rfl) (fun _ => by kernel_rfl) ?_
    refine T.nil ?_
    refine T.seq ?_
    refine T.cond (decide (x1 < (p0.length : Int))) (by kernel_rfl) (by kernel_rfl) (fun hc2 => ?_) (fun hc2 => ?_)
    ·
     rw [hc2, cond_true] at hY1
     refine T.skip_code ?_
     obtain ⟨q2, hX1, hY1⟩ := Option.bind_eq_some_iff.1 hY1
     refine T.cut (fun a w' => q2 = Sum.inl () ∧ ∃ (V3 : View), View.le V1 V3 ∧ Fr 55 [(0, .slice A1 p0.length c1), (10, .slice A1 p0.length c1), (11, .int .i64 (p0.length : Int)), (12, .int .i64 x1)] a ∧ Hp w V3 [] w') ?_ ?_
     ·
      refine T.block ?_
      refine T.seq ?_
      refine T.region ?_
      refine T.pure (.int .i64 x1) (by kernel_rfl) (fun _ => by kernel_rfl) ?_
      obtain ⟨e1, hb1, hX1⟩ := Option.bind_eq_some_iff.1 hX1
      obtain ⟨hi1, hi2, hi3⟩ := idx_some hb1
      refine T.look (.pointer (some ((sadr A1).add (x1.toNat * 6)))) (by kernel_rfl) (fun w' hh => exec_indexAddr (e := 36) (s := 6) rfl rfl rfl (by kernel_rfl) (by kernel_rfl) hi1 hi2 ((SlOk.mono hs1 hV1).some_ hi3 (by decide))) ?_
      refine T.look (.agg #[.int .i64 e1.key.pfs, .int .i64 e1.key.obj, .int .i64 e1.key.off, .int .i64 e1.made, .int .i64 e1.gone, .string e1.val]) (by kernel_rfl) (fun w' hh => exec_loadN (cs := [.int .i64 e1.key.pfs, .int .i64 e1.key.obj, .int .i64 e1.key.off, .int .i64 e1.made, .int .i64 e1.gone, .string e1.val]) rfl rfl (by kernel_rfl) (by kernel_rfl) (fun j u hj => (hh.cell_view (SlOk.cellF (E := eElem) (SlOk.mono hs1 hV1) hi3 j (fun _ _ _ h => h) hj)))) ?_
      refine T.step (W1.new 36 [.int .i64 0, .int .i64 0, .int .i64 0, .int .i64 0, .int .i64 0, .string (ByteArray.mk #[])] (fun b => .pointer (some ⟨b, 0, none⟩)) (by kernel_rfl) (fun _ => by kernel_rfl) (fun b1 => ?_))
      refine T.pure (.int .i64 x1) (by kernel_rfl) (fun _ => by kernel_rfl) ?_
      refine T.step (W1.store 0 [.int .i64 e1.key.pfs, .int .i64 e1.key.obj, .int .i64 e1.key.off, .int .i64 e1.made, .int .i64 e1.gone, .string e1.val] [box b1 36 [.int .i64 e1.key.pfs, .int .i64 e1.key.obj, .int .i64 e1.key.off, .int .i64 e1.made, .int .i64 e1.gone, .string e1.val]] (by rfl) rfl (by kernel_rfl) (fun w' hw => exec_store (vs := [.int .i64 e1.key.pfs, .int .i64 e1.key.obj, .int .i64 e1.key.off, .int .i64 e1.made, .int .i64 e1.gone, .string e1.val]) rfl rfl rfl rfl (by kernel_rfl) (one_of rfl) (by simp) rfl hw) ?_)
      refine T.nil ?_
      refine T.seq ?_
      refine T.seq ?_
      refine T.region ?_
      refine T.look (.agg #[.int .i64 e1.key.pfs, .int .i64 e1.key.obj, .int .i64 e1.key.off, .int .i64 e1.made, .int .i64 e1.gone, .string e1.val]) (by kernel_rfl) (fun w' hh => exec_loadN (cs := [.int .i64 e1.key.pfs, .int .i64 e1.key.obj, .int .i64 e1.key.off, .int .i64 e1.made, .int .i64 e1.gone, .string e1.val]) rfl rfl (by kernel_rfl) (by kernel_rfl) (fun j u hj => (hh.box_at (i := 0) (cs := [.int .i64 e1.key.pfs, .int .i64 e1.key.obj, .int .i64 e1.key.off, .int .i64 e1.made, .int .i64 e1.gone, .string e1.val]) (by rfl) 0 j).trans (seg_at (n := 6) (by rfl) hj))) ?_
      obtain ⟨r1, hb2, hX1⟩ := Option.bind_eq_some_iff.1 hX1
      refine T.step (W1.call (vSc eInt) r1 37 #[.agg #[.int .i64 e1.key.pfs, .int .i64 e1.key.obj, .int .i64 e1.key.off, .int .i64 e1.made, .int .i64 e1.gone, .string e1.val]] (by kernel_rfl) (fun _ => by kernel_rfl) (fun w' hh => elem_Check_l e1 r1 hb2 w' ) ?_)
      intro u V4 hV4 hu
      obtain rfl := sureInt _ _ _ hu
      refine T.pure (.int .i64 r1) (by kernel_rfl) (fun _ => by kernel_rfl) ?_
      refine T.nil ?_
      refine T.seq ?_
      refine T.region ?_
      refine T.pure (.int .i64 r1) (by kernel_rfl) (fun _ => by kernel_rfl) ?_
      refine T.pure (.bool (r1 != 0)) (by kernel_rfl) (fun _ => by kernel_rfl) ?_
      refine T.nil ?_
      refine T.cond (r1 != 0) (by kernel_rfl) (by kernel_rfl) (fun hc3 => ?_) (fun hc3 => ?_)
      ·
       rw [hc3, cond_true] at hX1
       refine T.seq ?_
       refine T.region ?_
       refine T.pure (.int .i64 r1) (by kernel_rfl) (fun _ => by kernel_rfl) ?_
       refine T.pure (.int .i64 r1) (by kernel_rfl) (fun _ => by kernel_rfl) ?_
       refine T.nil ?_
       cases hX1
       try dsimp only at hY1
       cases hY1
       cases (hr1 _ rfl)
       try dsimp only at hF
       cases hF
       refine T.ret rfl ?_
       exact T.ret1 rfl (ResIs.tmp rfl) fun w' hh => ⟨_, rfl, hh.below, (show _ from rfl)⟩
      ·
       rw [hc3, cond_false] at hX1
       refine T.skip_code ?_
       refine T.seq ?_
       refine T.seq ?_
       refine T.region ?_
       refine T.pure (.int .i64 x1) (by kernel_rfl) (fun _ => by kernel_rfl) ?_
       refine T.pure (.bool (x1 == 0)) (by kernel_rfl) (fun _ => by kernel_rfl) ?_
       refine T.nil ?_
       refine T.cond (x1 == 0) (by kernel_rfl) (by kernel_rfl) (fun hc4 => ?_) (fun hc4 => ?_)
       ·
        rw [hc4, cond_true] at hX1
        refine T.exit ?_
        cases hX1
        exact fun a w' hf hh => And.intro rfl (Exists.intro V4 (And.intro hV4 (And.intro (((((Fr.nil hf).pick hf 12 rfl).pick hf 11 rfl).pick hf 10 rfl).pick hf 0 rfl) (hh.sub (.cons _ List.Sublist.slnil)))))
       ·
        rw [hc4, cond_false] at hX1
        refine T.skip_code ?_
        refine T.seq ?_
        refine T.region ?_
        refine T.pure (.slice A1 p0.length c1) (by kernel_rfl) (fun _ => by kernel_rfl) ?_
        refine T.pure (.int .i64 x1) (by kernel_rfl) (fun _ => by kernel_rfl) ?_
        refine T.pure (.int .i64 (IntKind.i64.wrap (x1 - 1))) (by kernel_rfl) (fun _ => by kernel_rfl) ?_
        obtain ⟨e2, hb3, hX1⟩ := Option.bind_eq_some_iff.1 hX1
        obtain ⟨hi4, hi5, hi6⟩ := idx_some hb3
        refine T.look (.pointer (some ((sadr A1).add (((IntKind.i64.wrap (x1 - 1)).toNat) * 6)))) (by kernel_rfl) (fun w' hh => exec_indexAddr (e := 36) (s := 6) rfl rfl rfl (by kernel_rfl) (by kernel_rfl) hi4 hi5 ((SlOk.mono hs1 (View.le_trans hV1 hV4)).some_ hi6 (by decide))) ?_
        refine T.look (.agg #[.int .i64 e2.key.pfs, .int .i64 e2.key.obj, .int .i64 e2.key.off, .int .i64 e2.made, .int .i64 e2.gone, .string e2.val]) (by kernel_rfl) (fun w' hh => exec_loadN (cs := [.int .i64 e2.key.pfs, .int .i64 e2.key.obj, .int .i64 e2.key.off, .int .i64 e2.made, .int .i64 e2.gone, .string e2.val]) rfl rfl (by kernel_rfl) (by kernel_rfl) (fun j u hj => (hh.cell_view (SlOk.cellF (E := eElem) (SlOk.mono hs1 (View.le_trans hV1 hV4)) hi6 j (fun _ _ _ h => h) hj)))) ?_
        refine T.step (W1.new 36 [.int .i64 0, .int .i64 0, .int .i64 0, .int .i64 0, .int .i64 0, .string (ByteArray.mk #[])] (fun b => .pointer (some ⟨b, 0, none⟩)) (by kernel_rfl) (fun _ => by kernel_rfl) (fun b2 => ?_))
        refine T.step (W1.store 0 [.int .i64 e2.key.pfs, .int .i64 e2.key.obj, .int .i64 e2.key.off, .int .i64 e2.made, .int .i64 e2.gone, .string e2.val] [box b2 36 [.int .i64 e2.key.pfs, .int .i64 e2.key.obj, .int .i64 e2.key.off, .int .i64 e2.made, .int .i64 e2.gone, .string e2.val], box b1 36 [.int .i64 e1.key.pfs, .int .i64 e1.key.obj, .int .i64 e1.key.off, .int .i64 e1.made, .int .i64 e1.gone, .string e1.val]] (by rfl) rfl (by kernel_rfl) (fun w' hw => exec_store (vs := [.int .i64 e2.key.pfs, .int .i64 e2.key.obj, .int .i64 e2.key.off, .int .i64 e2.made, .int .i64 e2.gone, .string e2.val]) rfl rfl rfl rfl (by kernel_rfl) (one_of rfl) (by simp) rfl hw) ?_)
        refine T.nil ?_
        obtain ⟨z1, hX2, hX1⟩ := Option.bind_eq_some_iff.1 hX1
        refine T.cut (fun a w' => Fr 55 [(0, .slice A1 p0.length c1), (10, .slice A1 p0.length c1), (11, .int .i64 (p0.length : Int)), (12, .int .i64 x1), (53, .bool z1)] a ∧ Hp w V4 [] w') ?_ ?_
        ·
         refine T.quiet (by kernel_rfl) (by kernel_rfl) ?_
         refine TQ.look (.agg #[.int .i64 e2.key.pfs, .int .i64 e2.key.obj, .int .i64 e2.key.off, .int .i64 e2.made, .int .i64 e2.gone, .string e2.val]) (by kernel_rfl) (fun w' hh => exec_loadN (cs := [.int .i64 e2.key.pfs, .int .i64 e2.key.obj, .int .i64 e2.key.off, .int .i64 e2.made, .int .i64 e2.gone, .string e2.val]) rfl rfl (by kernel_rfl) (by kernel_rfl) (fun j u hj => (hh.box_at (i := 0) (cs := [.int .i64 e2.key.pfs, .int .i64 e2.key.obj, .int .i64 e2.key.off, .int .i64 e2.made, .int .i64 e2.gone, .string e2.val]) (by rfl) 0 j).trans (seg_at (n := 6) (by rfl) hj))) ?_
         obtain ⟨r2, hb4, hX2⟩ := Option.bind_eq_some_iff.1 hX2
         refine TQ.call (vAg eSpot) r2 39 #[.agg #[.int .i64 e2.key.pfs, .int .i64 e2.key.obj, .int .i64 e2.key.off, .int .i64 e2.made, .int .i64 e2.gone, .string e2.val]] (.agg #[.int .i64 r2.key.pfs, .int .i64 r2.key.obj, .int .i64 r2.key.off, .int .i64 r2.made]) (fun V u hu => sureSpot V u _ hu) (by kernel_rfl) (fun _ => by kernel_rfl) (fun w' hh => elem_Spot_l e2 r2 hb4 w' ) ?_
         refine TQ.look (.agg #[.int .i64 e1.key.pfs, .int .i64 e1.key.obj, .int .i64 e1.key.off, .int .i64 e1.made, .int .i64 e1.gone, .string e1.val]) (by kernel_rfl) (fun w' hh => exec_loadN (cs := [.int .i64 e1.key.pfs, .int .i64 e1.key.obj, .int .i64 e1.key.off, .int .i64 e1.made, .int .i64 e1.gone, .string e1.val]) rfl rfl (by kernel_rfl) (by kernel_rfl) (fun j u hj => (hh.box_at (i := 1) (cs := [.int .i64 e1.key.pfs, .int .i64 e1.key.obj, .int .i64 e1.key.off, .int .i64 e1.made, .int .i64 e1.gone, .string e1.val]) (by rfl) 0 j).trans (seg_at (n := 6) (by rfl) hj))) ?_
         obtain ⟨r3, hb5, hX2⟩ := Option.bind_eq_some_iff.1 hX2
         refine TQ.call (vAg eSpot) r3 39 #[.agg #[.int .i64 e1.key.pfs, .int .i64 e1.key.obj, .int .i64 e1.key.off, .int .i64 e1.made, .int .i64 e1.gone, .string e1.val]] (.agg #[.int .i64 r3.key.pfs, .int .i64 r3.key.obj, .int .i64 r3.key.off, .int .i64 r3.made]) (fun V u hu => sureSpot V u _ hu) (by kernel_rfl) (fun _ => by kernel_rfl) (fun w' hh => elem_Spot_l e1 r3 hb5 w' ) ?_
         obtain ⟨r4, hb6, hX2⟩ := Option.bind_eq_some_iff.1 hX2
         refine TQ.call (vSc eInt) r4 38 #[.agg #[.int .i64 r2.key.pfs, .int .i64 r2.key.obj, .int .i64 r2.key.off, .int .i64 r2.made], .agg #[.int .i64 r3.key.pfs, .int .i64 r3.key.obj, .int .i64 r3.key.off, .int .i64 r3.made]] (.int .i64 r4) (fun V u hu => sureInt V u _ hu) (by kernel_rfl) (fun _ => by kernel_rfl) (fun w' hh => key_CmpSpot_l r2 r3 r4 hb6 w' ) ?_
         refine TQ.pure (.bool (decide ((0 : Int) ≤ r4))) (by kernel_rfl) (fun _ => by kernel_rfl) ?_
         refine TQ.pure (.bool (decide ((0 : Int) ≤ r4))) (by kernel_rfl) (fun _ => by kernel_rfl) ?_
         cases hg1 : decide ((0 : Int) ≤ r4)
         ·
          skip
          rw [hg1, cond_false] at hX2
          refine TQ.pure (.pointer (some ⟨b2, 0, none⟩)) (by kernel_rfl) (fun _ => by kernel_rfl) ?_
          refine TQ.look (.agg #[.int .i64 e2.key.pfs, .int .i64 e2.key.obj, .int .i64 e2.key.off]) (by kernel_rfl) (fun w' hh => exec_loadN (cs := [.int .i64 e2.key.pfs, .int .i64 e2.key.obj, .int .i64 e2.key.off]) rfl rfl (by kernel_rfl) (by kernel_rfl) (fun j u hj => (hh.box_at (i := 0) (cs := [.int .i64 e2.key.pfs, .int .i64 e2.key.obj, .int .i64 e2.key.off, .int .i64 e2.made, .int .i64 e2.gone, .string e2.val]) (by rfl) 0 j).trans (seg_at (n := 3) (by rfl) hj))) ?_
          refine TQ.pure (.pointer (some ⟨b1, 0, none⟩)) (by kernel_rfl) (fun _ => by kernel_rfl) ?_
          refine TQ.look (.agg #[.int .i64 e1.key.pfs, .int .i64 e1.key.obj, .int .i64 e1.key.off]) (by kernel_rfl) (fun w' hh => exec_loadN (cs := [.int .i64 e1.key.pfs, .int .i64 e1.key.obj, .int .i64 e1.key.off]) rfl rfl (by kernel_rfl) (by kernel_rfl) (fun j u hj => (hh.box_at (i := 1) (cs := [.int .i64 e1.key.pfs, .int .i64 e1.key.obj, .int .i64 e1.key.off, .int .i64 e1.made, .int .i64 e1.gone, .string e1.val]) (by rfl) 0 j).trans (seg_at (n := 3) (by rfl) hj))) ?_
          refine TQ.look (.bool (e2.key == e1.key)) (by kernel_rfl) (fun w' hh => exec_eql_DKey e2.key e1.key w' rfl rfl rfl) ?_
          refine TQ.pure (.bool (e2.key == e1.key)) (by kernel_rfl) (fun _ => by kernel_rfl) ?_
          cases hg2 : (e2.key == e1.key)
          ·
           skip
           rw [hg2, cond_false] at hX2
           refine TQ.pass (by kernel_rfl) (by kernel_rfl) ?_
           refine TQ.pass (by kernel_rfl) (by kernel_rfl) ?_
           refine TQ.pass (by kernel_rfl) (by kernel_rfl) ?_
           refine TQ.pass (by kernel_rfl) (by kernel_rfl) ?_
           refine TQ.pass (by kernel_rfl) (by kernel_rfl) ?_
           refine TQ.pass (by kernel_rfl) (by kernel_rfl) ?_
           refine TQ.pass (by kernel_rfl) (by kernel_rfl) ?_
           refine TQ.pass (by kernel_rfl) (by kernel_rfl) ?_
           refine TQ.pass (by kernel_rfl) (by kernel_rfl) ?_
           refine TQ.pass (by kernel_rfl) (by kernel_rfl) ?_
           refine TQ.pure (.bool false) (by kernel_rfl) (fun _ => by kernel_rfl) ?_
           refine TQ.pure (.bool false) (by kernel_rfl) (fun _ => by kernel_rfl) ?_
           refine TQ.nil ?_
           cases hX2
           exact fun a w' hf hh => And.intro ((((((Fr.nil hf).pick hf 53 rfl).pick hf 12 rfl).pick hf 11 rfl).pick hf 10 rfl).pick hf 0 rfl) (hh.sub (.cons _ (.cons _ List.Sublist.slnil)))
          ·
           skip
           rw [hg2, cond_true] at hX2
           refine TQ.pure (.pointer (some ⟨b2, 4, none⟩)) (by kernel_rfl) (fun _ => by kernel_rfl) ?_
           refine TQ.look (.int .i64 e2.gone) (by kernel_rfl) (fun w' hh => exec_load1 rfl rfl (by kernel_rfl) (hh.cellBox (i := 0) (by rfl) 4)) ?_
           refine TQ.pure (.bool (e2.gone == 0)) (by kernel_rfl) (fun _ => by kernel_rfl) ?_
           refine TQ.pure (.bool (e2.gone == 0)) (by kernel_rfl) (fun _ => by kernel_rfl) ?_
           cases hg3 : (e2.gone == 0)
           ·
            skip
            rw [hg3, cond_false] at hX2
            refine TQ.pure (.pointer (some ⟨b2, 4, none⟩)) (by kernel_rfl) (fun _ => by kernel_rfl) ?_
            refine TQ.look (.int .i64 e2.gone) (by kernel_rfl) (fun w' hh => exec_load1 rfl rfl (by kernel_rfl) (hh.cellBox (i := 0) (by rfl) 4)) ?_
            refine TQ.pure (.pointer (some ⟨b1, 3, none⟩)) (by kernel_rfl) (fun _ => by kernel_rfl) ?_
            refine TQ.look (.int .i64 e1.made) (by kernel_rfl) (fun w' hh => exec_load1 rfl rfl (by kernel_rfl) (hh.cellBox (i := 1) (by rfl) 3)) ?_
            refine TQ.pure (.bool (decide (e1.made < e2.gone))) (by kernel_rfl) (fun _ => by kernel_rfl) ?_
            refine TQ.pure (.bool (decide (e1.made < e2.gone))) (by kernel_rfl) (fun _ => by kernel_rfl) ?_
            refine TQ.pure (.bool (decide (e1.made < e2.gone))) (by kernel_rfl) (fun _ => by kernel_rfl) ?_
            refine TQ.pure (.bool (decide (e1.made < e2.gone))) (by kernel_rfl) (fun _ => by kernel_rfl) ?_
            refine TQ.nil ?_
            cases hX2
            exact fun a w' hf hh => And.intro ((((((Fr.nil hf).pick hf 53 rfl).pick hf 12 rfl).pick hf 11 rfl).pick hf 10 rfl).pick hf 0 rfl) (hh.sub (.cons _ (.cons _ List.Sublist.slnil)))
           ·
            skip
            rw [hg3, cond_true] at hX2
            refine TQ.pass (by kernel_rfl) (by kernel_rfl) ?_
            refine TQ.pass (by kernel_rfl) (by kernel_rfl) ?_
            refine TQ.pass (by kernel_rfl) (by kernel_rfl) ?_
            refine TQ.pass (by kernel_rfl) (by kernel_rfl) ?_
            refine TQ.pass (by kernel_rfl) (by kernel_rfl) ?_
            refine TQ.pure (.bool true) (by kernel_rfl) (fun _ => by kernel_rfl) ?_
            refine TQ.pure (.bool true) (by kernel_rfl) (fun _ => by kernel_rfl) ?_
            refine TQ.pure (.bool true) (by kernel_rfl) (fun _ => by kernel_rfl) ?_
            refine TQ.nil ?_
            cases hX2
            exact fun a w' hf hh => And.intro ((((((Fr.nil hf).pick hf 53 rfl).pick hf 12 rfl).pick hf 11 rfl).pick hf 10 rfl).pick hf 0 rfl) (hh.sub (.cons _ (.cons _ List.Sublist.slnil)))
         ·
          skip
          rw [hg1, cond_true] at hX2
          refine TQ.pass (by kernel_rfl) (by kernel_rfl) ?_
          refine TQ.pass (by kernel_rfl) (by kernel_rfl) ?_
          refine TQ.pass (by kernel_rfl) (by kernel_rfl) ?_
          refine TQ.pass (by kernel_rfl) (by kernel_rfl) ?_
          refine TQ.pass (by kernel_rfl) (by kernel_rfl) ?_
          refine TQ.pass (by kernel_rfl) (by kernel_rfl) ?_
          refine TQ.pass (by kernel_rfl) (by kernel_rfl) ?_
          refine TQ.pass (by kernel_rfl) (by kernel_rfl) ?_
          refine TQ.pass (by kernel_rfl) (by kernel_rfl) ?_
          refine TQ.pass (by kernel_rfl) (by kernel_rfl) ?_
          refine TQ.pass (by kernel_rfl) (by kernel_rfl) ?_
          refine TQ.pass (by kernel_rfl) (by kernel_rfl) ?_
          refine TQ.pass (by kernel_rfl) (by kernel_rfl) ?_
          refine TQ.pass (by kernel_rfl) (by kernel_rfl) ?_
          refine TQ.pass (by kernel_rfl) (by kernel_rfl) ?_
          refine TQ.pass (by kernel_rfl) (by kernel_rfl) ?_
          refine TQ.pass (by kernel_rfl) (by kernel_rfl) ?_
          refine TQ.pure (.bool true) (by kernel_rfl) (fun _ => by kernel_rfl) ?_
          refine TQ.nil ?_
          cases hX2
          exact fun a w' hf hh => And.intro ((((((Fr.nil hf).pick hf 53 rfl).pick hf 12 rfl).pick hf 11 rfl).pick hf 10 rfl).pick hf 0 rfl) (hh.sub (.cons _ (.cons _ List.Sublist.slnil)))
        ·
         rintro a w' ⟨hf, hh⟩
         refine (?_ : T 55 w V4 [] [(0, .slice A1 p0.length c1), (10, .slice A1 p0.length c1), (11, .int .i64 (p0.length : Int)), (12, .int .i64 x1), (53, .bool z1)] _) a w' hf hh
         clear hf hh
         refine T.cond z1 (by kernel_rfl) (by kernel_rfl) (fun hc5 => ?_) (fun hc5 => ?_)
         ·
          rw [hc5, cond_true] at hX1
          refine T.seq ?_
          refine T.region ?_
          refine T.pure (.int .i64 3) (by kernel_rfl) (fun _ => by kernel_rfl) ?_
          refine T.nil ?_
          cases hX1
          try dsimp only at hY1
          cases hY1
          cases (hr1 _ rfl)
          try dsimp only at hF
          cases hF
          refine T.ret rfl ?_
          exact T.ret1 rfl (ResIs.tmp rfl) fun w' hh => ⟨_, rfl, hh.below, (show _ from rfl)⟩
         ·
          rw [hc5, cond_false] at hX1
          refine T.skip_code ?_
          cases hX1
          exact fun a w' hf hh => And.intro rfl (Exists.intro V4 (And.intro hV4 (And.intro (((((Fr.nil hf).pick hf 12 rfl).pick hf 11 rfl).pick hf 10 rfl).pick hf 0 rfl) (hh.sub List.Sublist.slnil))))
     ·
      rintro a w' ⟨rfl, V3, hV3, hf, hh⟩
      try dsimp only at hY1
      refine (?_ : T 55 w V3 [] [(0, .slice A1 p0.length c1), (10, .slice A1 p0.length c1), (11, .int .i64 (p0.length : Int)), (12, .int .i64 x1)] _) a w' hf hh
      clear hf hh
      refine T.region ?_
      refine T.pure (.int .i64 (IntKind.i64.wrap (x1 + 1))) (by kernel_rfl) (fun _ => by kernel_rfl) ?_
      refine T.pure (.int .i64 (IntKind.i64.wrap (x1 + 1))) (by kernel_rfl) (fun _ => by kernel_rfl) ?_
      refine T.nil ?_
      cases hY1
      exact fun a w' hf hh => Exists.intro (IntKind.i64.wrap (x1 + 1)) (And.intro rfl (Exists.intro V3 (And.intro (View.le_trans hV1 hV3) (And.intro (((((Fr.nil hf).pick hf 12 rfl).pick hf 11 rfl).pick hf 10 rfl).pick hf 0 rfl) (hh.sub List.Sublist.slnil)))))
    ·
     rw [hc2, cond_false] at hY1
     refine T.exit ?_
     cases hY1
     cases (hr1 _ rfl)
     exact fun a w' hf hh => And.intro rfl (Exists.intro V1 (And.intro hV1 (And.intro (Fr.nil hf) (hh.sub List.Sublist.slnil))))
  ·
   rintro a w' ⟨rfl, V2, hV2, hf, hh⟩
   try dsimp only at hF
   refine (?_ : T 55 w V2 [] [] _) a w' hf hh
   clear hf hh
   refine T.seq ?_
   refine T.region ?_
   refine T.pure (.int .i64 0) (by kernel_rfl) (fun _ => by kernel_rfl) ?_
   refine T.nil ?_
   cases hF
   refine T.ret rfl ?_
   exact T.ret1 rfl (ResIs.tmp rfl) fun w' hh => ⟨_, rfl, hh.below, (show _ from rfl)⟩

set_option maxRecDepth 100000 in
set_option maxHeartbeats 4000000 in
theorem run_last_l (F : Nat) (p0 : (List DElem)) (r : Int) (hF : run_last F p0 = some r) (w : World) (A1 : Option Addr) (c1 : Nat) (hs1 : SlOk (vw w) eElem A1 c1 p0) :
    Calls Tryd.prog 53 #[.slice A1 p0.length c1] w (Post (vSc eInt) r w) := by
 unfold run_last at hF
 refine T.start (l := [.slice A1 p0.length c1]) Tryd.func53 rfl rfl rfl ?_
 refine T.seq ?_
 refine T.region ?_
 refine T.pure (.int .i64 0) (by kernel_rfl) (fun _ => by kernel_rfl) ?_
 refine T.nil ?_
 refine T.seq ?_
 refine T.region ?_
 refine T.pure (.int .i64 0) (by kernel_rfl) (fun _ => by kernel_rfl) ?_
 refine T.nil ?_
 refine T.seq ?_
 refine T.seq ?_
 refine T.region ?_
 refine T.pure (.slice A1 p0.length c1) (by kernel_rfl) (fun _ => by kernel_rfl) ?_
 refine T.pure (.int .i64 (p0.length : Int)) (by kernel_rfl) (fun _ => by kernel_rfl) ?_
 refine T.pure (.int .i64 0) (by kernel_rfl) (fun _ => by kernel_rfl) ?_
 refine T.nil ?_
 obtain ⟨z1, hz1, hF⟩ := Option.bind_eq_some_iff.1 hF
 refine T.mid (fun a w' => ∃ (V2 : View), View.le (vw w) V2 ∧ Fr 18 [(3, .int .i64 z1)] a ∧ Hp w V2 [] w') ?_ ?_
 ·
  refine T.block ?_
  refine T.iter (fun s1 a w' => ∃ (x1 : Int) (x2 : Int), s1 = (x1, x2) ∧ ∃ (V1 : View), View.le (vw w) V1 ∧ Fr 18 [(3, .int .i64 x1), (6, .slice A1 p0.length c1), (7, .int .i64 (p0.length : Int)), (8, .int .i64 x2)] a ∧ Hp w V1 [] w') hz1 ?_ ?_
  ·
   exact fun a w' hf hh => Exists.intro 0 (Exists.intro 0 (And.intro rfl (Exists.intro (vw w) (And.intro (View.le_refl _) (And.intro (((((Fr.nil hf).pick hf 8 rfl).pick hf 7 rfl).pick hf 6 rfl).pick hf 3 rfl) (hh.sub List.Sublist.slnil))))))
  ·
   rintro s1 y1 hY1 hr1 a w' ⟨x1, x2, rfl, V1, hV1, hf, hh⟩
   refine (?_ : T 18 w V1 [] [(3, .int .i64 x1), (6, .slice A1 p0.length c1), (7, .int .i64 (p0.length : Int)), (8, .int .i64 x2)] _) a w' hf hh
   clear hf hh
   try dsimp only at hY1
   refine T.seq ?_
   refine T.region ?_
   refine T.pure (.bool (decide (x2 < (p0.length : Int)))) (by kernel_rfl) (fun _ => by kernel_rfl) ?_
   refine T.nil ?_
   refine T.seq ?_
   refine T.cond (decide (x2 < (p0.length : Int))) (by kernel_rfl) (by kernel_rfl) (fun hc1 => ?_) (fun hc1 => ?_)
   ·
    rw [hc1, cond_true] at hY1
    refine T.skip_code ?_
    refine T.seq ?_
    refine T.block ?_
    refine T.seq ?_
    refine T.region ?_
    obtain ⟨e1, hb1, hY1⟩ := Option.bind_eq_some_iff.1 hY1
    obtain ⟨hi1, hi2, hi3⟩ := idx_some hb1
    refine T.look (.pointer (some ((sadr A1).add (x2.toNat * 6)))) (by kernel_rfl) (fun w' hh => exec_indexAddr (e := 36) (s := 6) rfl rfl rfl (by kernel_rfl) (by kernel_rfl) hi1 hi2 ((SlOk.mono hs1 hV1).some_ hi3 (by decide))) ?_
    refine T.look (.agg #[.int .i64 e1.key.pfs, .int .i64 e1.key.obj, .int .i64 e1.key.off, .int .i64 e1.made, .int .i64 e1.gone, .string e1.val]) (by kernel_rfl) (fun w' hh => exec_loadN (cs := [.int .i64 e1.key.pfs, .int .i64 e1.key.obj, .int .i64 e1.key.off, .int .i64 e1.made, .int .i64 e1.gone, .string e1.val]) rfl rfl (by kernel_rfl) (by kernel_rfl) (fun j u hj => (hh.cell_view (SlOk.cellF (E := eElem) (SlOk.mono hs1 hV1) hi3 j (fun _ _ _ h => h) hj)))) ?_
    refine T.step (W1.new 36 [.int .i64 0, .int .i64 0, .int .i64 0, .int .i64 0, .int .i64 0, .string (ByteArray.mk #[])] (fun b => .pointer (some ⟨b, 0, none⟩)) (by kernel_rfl) (fun _ => by kernel_rfl) (fun b1 => ?_))
    refine T.step (W1.store 0 [.int .i64 e1.key.pfs, .int .i64 e1.key.obj, .int .i64 e1.key.off, .int .i64 e1.made, .int .i64 e1.gone, .string e1.val] [box b1 36 [.int .i64 e1.key.pfs, .int .i64 e1.key.obj, .int .i64 e1.key.off, .int .i64 e1.made, .int .i64 e1.gone, .string e1.val]] (by rfl) rfl (by kernel_rfl) (fun w' hw => exec_store (vs := [.int .i64 e1.key.pfs, .int .i64 e1.key.obj, .int .i64 e1.key.off, .int .i64 e1.made, .int .i64 e1.gone, .string e1.val]) rfl rfl rfl rfl (by kernel_rfl) (one_of rfl) (by simp) rfl hw) ?_)
    refine T.nil ?_
    refine T.region ?_
    refine T.pure (.int .i64 x1) (by kernel_rfl) (fun _ => by kernel_rfl) ?_
    refine T.look (.agg #[.int .i64 e1.key.pfs, .int .i64 e1.key.obj, .int .i64 e1.key.off, .int .i64 e1.made, .int .i64 e1.gone, .string e1.val]) (by kernel_rfl) (fun w' hh => exec_loadN (cs := [.int .i64 e1.key.pfs, .int .i64 e1.key.obj, .int .i64 e1.key.off, .int .i64 e1.made, .int .i64 e1.gone, .string e1.val]) rfl rfl (by kernel_rfl) (by kernel_rfl) (fun j u hj => (hh.box_at (i := 0) (cs := [.int .i64 e1.key.pfs, .int .i64 e1.key.obj, .int .i64 e1.key.off, .int .i64 e1.made, .int .i64 e1.gone, .string e1.val]) (by rfl) 0 j).trans (seg_at (n := 6) (by rfl) hj))) ?_
    obtain ⟨r1, hb2, hY1⟩ := Option.bind_eq_some_iff.1 hY1
    refine T.step (W1.call (vSc eInt) r1 77 #[.agg #[.int .i64 e1.key.pfs, .int .i64 e1.key.obj, .int .i64 e1.key.off, .int .i64 e1.made, .int .i64 e1.gone, .string e1.val]] (by kernel_rfl) (fun _ => by kernel_rfl) (fun w' hh => elem_Last_l e1 r1 hb2 w' ) ?_)
    intro u V3 hV3 hu
    obtain rfl := sureInt _ _ _ hu
    refine T.pure (.int .i64 (if x1 < r1 then r1 else x1)) (by kernel_rfl) (fun _ => by kernel_rfl) ?_
    refine T.pure (.int .i64 (if x1 < r1 then r1 else x1)) (by kernel_rfl) (fun _ => by kernel_rfl) ?_
    refine T.nil ?_
    refine T.region ?_
    refine T.pure (.int .i64 (IntKind.i64.wrap (x2 + 1))) (by kernel_rfl) (fun _ => by kernel_rfl) ?_
    refine T.pure (.int .i64 (IntKind.i64.wrap (x2 + 1))) (by kernel_rfl) (fun _ => by kernel_rfl) ?_
    refine T.nil ?_
    cases hY1
    exact fun a w' hf hh => Exists.intro ((if x1 < r1 then r1 else x1), IntKind.i64.wrap (x2 + 1)) (And.intro rfl (Exists.intro (if x1 < r1 then r1 else x1) (Exists.intro (IntKind.i64.wrap (x2 + 1)) (And.intro rfl (Exists.intro V3 (And.intro (View.le_trans hV1 hV3) (And.intro (((((Fr.nil hf).pick hf 8 rfl).pick hf 7 rfl).pick hf 6 rfl).pick hf 3 rfl) (hh.sub (.cons _ List.Sublist.slnil)))))))))
   ·
    rw [hc1, cond_false] at hY1
    refine T.exit ?_
    cases hY1
    cases (hr1 _ rfl)
    exact fun a w' hf hh => Exists.intro V1 (And.intro hV1 (And.intro ((Fr.nil hf).pick hf 3 rfl) (hh.sub List.Sublist.slnil)))
 ·
  rintro a w' ⟨V2, hV2, hf, hh⟩
  refine (?_ : T 18 w V2 [] [(3, .int .i64 z1)] _) a w' hf hh
  clear hf hh
  refine T.seq ?_
  refine T.region ?_
  refine T.pure (.int .i64 z1) (by kernel_rfl) (fun _ => by kernel_rfl) ?_
  refine T.pure (.int .i64 z1) (by kernel_rfl) (fun _ => by kernel_rfl) ?_
  refine T.nil ?_
  cases hF
  refine T.ret rfl ?_
  exact T.ret1 rfl (ResIs.tmp rfl) fun w' hh => ⟨_, rfl, hh.below, (show _ from rfl)⟩

set_option maxRecDepth 100000 in
set_option maxHeartbeats 4000000 in
theorem run_place_l (F : Nat) (p0 : (List DElem)) (p1 : DSpot) (r : Int) (hF : run_place F p0 p1 = some r) (w : World) (A1 : Option Addr) (c1 : Nat) (hs1 : SlOk (vw w) eElem A1 c1 p0) :
    Calls Tryd.prog 55 #[.slice A1 p0.length c1, .agg #[.int .i64 p1.key.pfs, .int .i64 p1.key.obj, .int .i64 p1.key.off, .int .i64 p1.made]] w (Post (vSc eInt) r w) := by
 unfold run_place at hF
 refine T.start (l := [.slice A1 p0.length c1, .agg #[.int .i64 p1.key.pfs, .int .i64 p1.key.obj, .int .i64 p1.key.off, .int .i64 p1.made]]) Tryd.func55 rfl rfl rfl ?_
 refine T.seq ?_
 refine T.region ?_
 refine T.step (W1.new 22 [.slice A1 p0.length c1] (fun b => .pointer (some ⟨b, 0, none⟩)) (by kernel_rfl) (fun _ => by kernel_rfl) (fun b1 => ?_))
 refine T.step (W1.new 80 [.int .i64 p1.key.pfs, .int .i64 p1.key.obj, .int .i64 p1.key.off, .int .i64 p1.made] (fun b => .pointer (some ⟨b, 0, none⟩)) (by kernel_rfl) (fun _ => by kernel_rfl) (fun b2 => ?_))
 refine T.pure (.int .i64 0) (by kernel_rfl) (fun _ => by kernel_rfl) ?_
 refine T.nil ?_
 refine T.seq ?_
 refine T.region ?_
 refine T.look (.slice A1 p0.length c1) (by kernel_rfl) (fun w' hh => exec_load1 rfl rfl (by kernel_rfl) (hh.cellBox (i := 1) (by rfl) 0)) ?_
 refine T.pure (.int .i64 (p0.length : Int)) (by kernel_rfl) (fun _ => by kernel_rfl) ?_
 refine T.pure (.func (.func 79) #[] #[.pointer (some ⟨b1, 0, none⟩), .pointer (some ⟨b2, 0, none⟩)]) (by kernel_rfl) (fun _ => by kernel_rfl) ?_
 obtain ⟨z1, hX1, hF⟩ := Option.bind_eq_some_iff.1 hF
 refine T.step (W1.within 78 [.int .i64 (p0.length : Int), .func (.func 79) #[] #[.pointer (some ⟨b1, 0, none⟩), .pointer (some ⟨b2, 0, none⟩)]] (fun v w' => v = .int .i64 z1 ∧ Hp w (vw w) [box b2 80 [.int .i64 p1.key.pfs, .int .i64 p1.key.obj, .int .i64 p1.key.off, .int .i64 p1.made], box b1 22 [.slice A1 p0.length c1]] w') Tryd.func78 rfl rfl (by kernel_rfl) (fun _ => by kernel_rfl) rfl ?_ ?_)
 ·
  refine T.seq ?_
  refine T.region ?_
  refine T.pure (.int .i64 0) (by kernel_rfl) (fun _ => by kernel_rfl) ?_
  refine T.nil ?_
  refine T.seq ?_
  refine T.region ?_
  refine T.pure (.int .i64 (p0.length : Int)) (by kernel_rfl) (fun _ => by kernel_rfl) ?_
  refine T.pure (.int .i64 0) (by kernel_rfl) (fun _ => by kernel_rfl) ?_
  refine T.pure (.int .i64 (p0.length : Int)) (by kernel_rfl) (fun _ => by kernel_rfl) ?_
  refine T.nil ?_
  obtain ⟨z2, hz1, hX1⟩ := Option.bind_eq_some_iff.1 hX1
  refine T.cut (fun a w' => Fr 26 [(5, .int .i64 z2)] a ∧ Hp w (vw w) [box b2 80 [.int .i64 p1.key.pfs, .int .i64 p1.key.obj, .int .i64 p1.key.off, .int .i64 p1.made], box b1 22 [.slice A1 p0.length c1]] w') ?_ ?_
  ·
   refine T.block ?_
   refine T.iter (fun s1 a w' => ∃ (x1 : Int) (x2 : Int), s1 = (x1, x2) ∧ Fr 26 [(1, .func (.func 79) #[] #[.pointer (some ⟨b1, 0, none⟩), .pointer (some ⟨b2, 0, none⟩)]), (5, .int .i64 x1), (6, .int .i64 x2)] a ∧ Hp w (vw w) [box b2 80 [.int .i64 p1.key.pfs, .int .i64 p1.key.obj, .int .i64 p1.key.off, .int .i64 p1.made], box b1 22 [.slice A1 p0.length c1]] w') hz1 ?_ ?_
   ·
    exact fun a w' hf hh => Exists.intro 0 (Exists.intro (p0.length : Int) (And.intro rfl (And.intro ((((Fr.nil hf).pick hf 6 rfl).pick hf 5 rfl).pick hf 1 rfl) (hh.sub (.cons_cons _ (.cons_cons _ List.Sublist.slnil))))))
   ·
    rintro s1 y1 hY1 hr1 a w' ⟨x1, x2, rfl, hf, hh⟩
    refine (?_ : T 26 w (vw w) [box b2 80 [.int .i64 p1.key.pfs, .int .i64 p1.key.obj, .int .i64 p1.key.off, .int .i64 p1.made], box b1 22 [.slice A1 p0.length c1]] [(1, .func (.func 79) #[] #[.pointer (some ⟨b1, 0, none⟩), .pointer (some ⟨b2, 0, none⟩)]), (5, .int .i64 x1), (6, .int .i64 x2)] _) a w' hf hh
    clear hf hh
    try dsimp only at hY1
    refine T.seq ?_
    refine T.seq ?_
    refine T.region ?_
    refine T.pure (.int .i64 x1) (by kernel_rfl) (fun _ => by kernel_rfl) ?_
    refine T.pure (.int .i64 x2) (by kernel_rfl) (fun _ => by kernel_rfl) ?_
    refine T.pure (.bool (decide (x1 < x2))) (by kernel_rfl) (fun _ => by kernel_rfl) ?_
    refine T.nil ?_
    refine T.cond (decide (x1 < x2)) (by kernel_rfl) (by kernel_rfl) (fun hc1 => ?_) (fun hc1 => ?_)
    ·
     rw [hc1, cond_true] at hY1
     refine T.skip_code ?_
     refine T.block ?_
     refine T.seq ?_
     refine T.region ?_
     refine T.pure (.int .i64 x1) (by kernel_rfl) (fun _ => by kernel_rfl) ?_
     refine T.pure (.int .i64 x2) (by kernel_rfl) (fun _ => by kernel_rfl) ?_
     refine T.pure (.int .i64 (IntKind.i64.wrap (x1 + x2))) (by kernel_rfl) (fun _ => by kernel_rfl) ?_
     refine T.pure (.int .u64 (IntKind.u64.wrap (IntKind.i64.wrap (x1 + x2)))) (by kernel_rfl) (fun _ => by kernel_rfl) ?_
     refine T.pure (.int .u64 (shr .u64 (IntKind.u64.wrap (IntKind.i64.wrap (x1 + x2))) 1)) (by kernel_rfl) (fun _ => by kernel_rfl) ?_
     refine T.pure (.int .i64 (IntKind.i64.wrap (shr .u64 (IntKind.u64.wrap (IntKind.i64.wrap (x1 + x2))) 1))) (by kernel_rfl) (fun _ => by kernel_rfl) ?_
     refine T.pure (.int .i64 (IntKind.i64.wrap (shr .u64 (IntKind.u64.wrap (IntKind.i64.wrap (x1 + x2))) 1))) (by kernel_rfl) (fun _ => by kernel_rfl) ?_
     refine T.nil ?_
     refine T.seq ?_
     refine T.region ?_
     refine T.pure (.func (.func 79) #[] #[.pointer (some ⟨b1, 0, none⟩), .pointer (some ⟨b2, 0, none⟩)]) (by kernel_rfl) (fun _ => by kernel_rfl) ?_
     refine T.pure (.int .i64 (IntKind.i64.wrap (shr .u64 (IntKind.u64.wrap (IntKind.i64.wrap (x1 + x2))) 1))) (by kernel_rfl) (fun _ => by kernel_rfl) ?_
     obtain ⟨z3, hX2, hY1⟩ := Option.bind_eq_some_iff.1 hY1
     refine T.step (W1.within 79 [.int .i64 (IntKind.i64.wrap (shr .u64 (IntKind.u64.wrap (IntKind.i64.wrap (x1 + x2))) 1)), .pointer (some ⟨b1, 0, none⟩), .pointer (some ⟨b2, 0, none⟩)] (fun v w' => v = .bool z3 ∧ Hp w (vw w) [box b2 80 [.int .i64 p1.key.pfs, .int .i64 p1.key.obj, .int .i64 p1.key.off, .int .i64 p1.made], box b1 22 [.slice A1 p0.length c1]] w') Tryd.func79 rfl rfl (by kernel_rfl) (fun _ => by kernel_rfl) rfl ?_ ?_)
     ·
      refine T.seq ?_
      refine T.region ?_
      refine T.pure (.bool false) (by kernel_rfl) (fun _ => by kernel_rfl) ?_
      refine T.nil ?_
      refine T.seq ?_
      refine T.quiet (by kernel_rfl) (by kernel_rfl) ?_
      refine TQ.look (.slice A1 p0.length c1) (by kernel_rfl) (fun w' hh => exec_load1 rfl rfl (by kernel_rfl) (hh.cellBox (i := 1) (by rfl) 0)) ?_
      refine TQ.pure (.int .i64 (IntKind.i64.wrap (shr .u64 (IntKind.u64.wrap (IntKind.i64.wrap (x1 + x2))) 1))) (by kernel_rfl) (fun _ => by kernel_rfl) ?_
      obtain ⟨e1, hb1, hX2⟩ := Option.bind_eq_some_iff.1 hX2
      obtain ⟨hi1, hi2, hi3⟩ := idx_some hb1
      refine TQ.look (.pointer (some ((sadr A1).add (((IntKind.i64.wrap (shr .u64 (IntKind.u64.wrap (IntKind.i64.wrap (x1 + x2))) 1)).toNat) * 6)))) (by kernel_rfl) (fun w' hh => exec_indexAddr (e := 36) (s := 6) rfl rfl rfl (by kernel_rfl) (by kernel_rfl) hi1 hi2 (hs1.some_ hi3 (by decide))) ?_
      refine TQ.look (.agg #[.int .i64 e1.key.pfs, .int .i64 e1.key.obj, .int .i64 e1.key.off, .int .i64 e1.made, .int .i64 e1.gone, .string e1.val]) (by kernel_rfl) (fun w' hh => exec_loadN (cs := [.int .i64 e1.key.pfs, .int .i64 e1.key.obj, .int .i64 e1.key.off, .int .i64 e1.made, .int .i64 e1.gone, .string e1.val]) rfl rfl (by kernel_rfl) (by kernel_rfl) (fun j u hj => (hh.cell_view (SlOk.cellF (E := eElem) hs1 hi3 j (fun _ _ _ h => h) hj)))) ?_
      obtain ⟨r1, hb2, hX2⟩ := Option.bind_eq_some_iff.1 hX2
      refine TQ.call (vAg eSpot) r1 39 #[.agg #[.int .i64 e1.key.pfs, .int .i64 e1.key.obj, .int .i64 e1.key.off, .int .i64 e1.made, .int .i64 e1.gone, .string e1.val]] (.agg #[.int .i64 r1.key.pfs, .int .i64 r1.key.obj, .int .i64 r1.key.off, .int .i64 r1.made]) (fun V u hu => sureSpot V u _ hu) (by kernel_rfl) (fun _ => by kernel_rfl) (fun w' hh => elem_Spot_l e1 r1 hb2 w' ) ?_
      refine TQ.look (.agg #[.int .i64 p1.key.pfs, .int .i64 p1.key.obj, .int .i64 p1.key.off, .int .i64 p1.made]) (by kernel_rfl) (fun w' hh => exec_loadN (cs := [.int .i64 p1.key.pfs, .int .i64 p1.key.obj, .int .i64 p1.key.off, .int .i64 p1.made]) rfl rfl (by kernel_rfl) (by kernel_rfl) (fun j u hj => (hh.box_at (i := 0) (cs := [.int .i64 p1.key.pfs, .int .i64 p1.key.obj, .int .i64 p1.key.off, .int .i64 p1.made]) (by rfl) 0 j).trans (seg_at (n := 4) (by rfl) hj))) ?_
      obtain ⟨r2, hb3, hX2⟩ := Option.bind_eq_some_iff.1 hX2
      refine TQ.call (vSc eInt) r2 38 #[.agg #[.int .i64 r1.key.pfs, .int .i64 r1.key.obj, .int .i64 r1.key.off, .int .i64 r1.made], .agg #[.int .i64 p1.key.pfs, .int .i64 p1.key.obj, .int .i64 p1.key.off, .int .i64 p1.made]] (.int .i64 r2) (fun V u hu => sureInt V u _ hu) (by kernel_rfl) (fun _ => by kernel_rfl) (fun w' hh => key_CmpSpot_l r1 p1 r2 hb3 w' ) ?_
      refine TQ.pure (.bool (decide ((0 : Int) ≤ r2))) (by kernel_rfl) (fun _ => by kernel_rfl) ?_
      refine TQ.pure (.bool (decide ((0 : Int) ≤ r2))) (by kernel_rfl) (fun _ => by kernel_rfl) ?_
      refine TQ.nil ?_
      cases hX2
      refine T.ret rfl ?_
      exact T.ret1 rfl (ResIs.tmp rfl) fun w' hh => ⟨_, rfl, And.intro rfl (hh.sub (.cons_cons _ (.cons_cons _ List.Sublist.slnil)))⟩
     ·
      rintro v w' ⟨rfl, hh⟩
      refine ⟨(vw w), [box b2 80 [.int .i64 p1.key.pfs, .int .i64 p1.key.obj, .int .i64 p1.key.off, .int .i64 p1.made], box b1 22 [.slice A1 p0.length c1]], hh, ?_⟩
      clear hh
      refine T.pure (.bool (!z3)) (by kernel_rfl) (fun _ => by kernel_rfl) ?_
      refine T.nil ?_
      refine T.cond (!z3) (by kernel_rfl) (by kernel_rfl) (fun hc2 => ?_) (fun hc2 => ?_)
      ·
       rw [hc2, cond_true] at hY1
       refine T.region ?_
       refine T.pure (.int .i64 (IntKind.i64.wrap (shr .u64 (IntKind.u64.wrap (IntKind.i64.wrap (x1 + x2))) 1))) (by kernel_rfl) (fun _ => by kernel_rfl) ?_
       refine T.pure (.int .i64 (IntKind.i64.wrap ((IntKind.i64.wrap (shr .u64 (IntKind.u64.wrap (IntKind.i64.wrap (x1 + x2))) 1)) + 1))) (by kernel_rfl) (fun _ => by kernel_rfl) ?_
       refine T.pure (.int .i64 (IntKind.i64.wrap ((IntKind.i64.wrap (shr .u64 (IntKind.u64.wrap (IntKind.i64.wrap (x1 + x2))) 1)) + 1))) (by kernel_rfl) (fun _ => by kernel_rfl) ?_
       refine T.nil ?_
       cases hY1
       exact fun a w' hf hh => Exists.intro (IntKind.i64.wrap ((IntKind.i64.wrap (shr .u64 (IntKind.u64.wrap (IntKind.i64.wrap (x1 + x2))) 1)) + 1), x2) (And.intro rfl (Exists.intro (IntKind.i64.wrap ((IntKind.i64.wrap (shr .u64 (IntKind.u64.wrap (IntKind.i64.wrap (x1 + x2))) 1)) + 1)) (Exists.intro x2 (And.intro rfl (And.intro ((((Fr.nil hf).pick hf 6 rfl).pick hf 5 rfl).pick hf 1 rfl) (hh.sub (.cons_cons _ (.cons_cons _ List.Sublist.slnil))))))))
      ·
       rw [hc2, cond_false] at hY1
       refine T.region ?_
       refine T.pure (.int .i64 (IntKind.i64.wrap (shr .u64 (IntKind.u64.wrap (IntKind.i64.wrap (x1 + x2))) 1))) (by kernel_rfl) (fun _ => by kernel_rfl) ?_
       refine T.pure (.int .i64 (IntKind.i64.wrap (shr .u64 (IntKind.u64.wrap (IntKind.i64.wrap (x1 + x2))) 1))) (by kernel_rfl) (fun _ => by kernel_rfl) ?_
       refine T.nil ?_
       cases hY1
       exact fun a w' hf hh => Exists.intro (x1, IntKind.i64.wrap (shr .u64 (IntKind.u64.wrap (IntKind.i64.wrap (x1 + x2))) 1)) (And.intro rfl (Exists.intro x1 (Exists.intro (IntKind.i64.wrap (shr .u64 (IntKind.u64.wrap (IntKind.i64.wrap (x1 + x2))) 1)) (And.intro rfl (And.intro ((((Fr.nil hf).pick hf 6 rfl).pick hf 5 rfl).pick hf 1 rfl) (hh.sub (.cons_cons _ (.cons_cons _ List.Sublist.slnil))))))))
    ·
     rw [hc1, cond_false] at hY1
     refine T.exit ?_
     cases hY1
     cases (hr1 _ rfl)
     exact fun a w' hf hh => And.intro ((Fr.nil hf).pick hf 5 rfl) (hh.sub (.cons_cons _ (.cons_cons _ List.Sublist.slnil)))
  ·
   rintro a w' ⟨hf, hh⟩
   refine (?_ : T 26 w (vw w) [box b2 80 [.int .i64 p1.key.pfs, .int .i64 p1.key.obj, .int .i64 p1.key.off, .int .i64 p1.made], box b1 22 [.slice A1 p0.length c1]] [(5, .int .i64 z2)] _) a w' hf hh
   clear hf hh
   refine T.seq ?_
   refine T.region ?_
   refine T.pure (.int .i64 z2) (by kernel_rfl) (fun _ => by kernel_rfl) ?_
   refine T.pure (.int .i64 z2) (by kernel_rfl) (fun _ => by kernel_rfl) ?_
   refine T.nil ?_
   cases hX1
   refine T.ret rfl ?_
   exact T.ret1 rfl (ResIs.tmp rfl) fun w' hh => ⟨_, rfl, And.intro rfl (hh.sub (.cons_cons _ (.cons_cons _ List.Sublist.slnil)))⟩
 ·
  rintro v w' ⟨rfl, hh⟩
  refine ⟨(vw w), [box b2 80 [.int .i64 p1.key.pfs, .int .i64 p1.key.obj, .int .i64 p1.key.off, .int .i64 p1.made], box b1 22 [.slice A1 p0.length c1]], hh, ?_⟩
  clear hh
  refine T.pure (.int .i64 z1) (by kernel_rfl) (fun _ => by kernel_rfl) ?_
  refine T.nil ?_
  cases hF
  refine T.ret rfl ?_
  exact T.ret1 rfl (ResIs.tmp rfl) fun w' hh => ⟨_, rfl, hh.below, (show _ from rfl)⟩

set_option maxRecDepth 100000 in
set_option maxHeartbeats 4000000 in
theorem run_now_l (F : Nat) (p0 : (List DElem)) (p1 : DKey) (r : Int) (hF : run_now F p0 p1 = some r) (w : World) (A1 : Option Addr) (c1 : Nat) (hs1 : SlOk (vw w) eElem A1 c1 p0) :
    Calls Tryd.prog 54 #[.slice A1 p0.length c1, .agg #[.int .i64 p1.pfs, .int .i64 p1.obj, .int .i64 p1.off]] w (Post (vSc eInt) r w) := by
 unfold run_now at hF
 refine T.start (l := [.slice A1 p0.length c1, .agg #[.int .i64 p1.pfs, .int .i64 p1.obj, .int .i64 p1.off]]) Tryd.func54 rfl rfl rfl ?_
 refine T.seq ?_
 refine T.region ?_
 refine T.step (W1.new 34 [.int .i64 p1.pfs, .int .i64 p1.obj, .int .i64 p1.off] (fun b => .pointer (some ⟨b, 0, none⟩)) (by kernel_rfl) (fun _ => by kernel_rfl) (fun b1 => ?_))
 refine T.pure (.int .i64 0) (by kernel_rfl) (fun _ => by kernel_rfl) ?_
 refine T.nil ?_
 refine T.seq ?_
 refine T.region ?_
 refine T.pure (.slice A1 p0.length c1) (by kernel_rfl) (fun _ => by kernel_rfl) ?_
 refine T.look (.agg #[.int .i64 p1.pfs, .int .i64 p1.obj, .int .i64 p1.off]) (by kernel_rfl) (fun w' hh => exec_loadN (cs := [.int .i64 p1.pfs, .int .i64 p1.obj, .int .i64 p1.off]) rfl rfl (by kernel_rfl) (by kernel_rfl) (fun j u hj => (hh.box_at (i := 0) (cs := [.int .i64 p1.pfs, .int .i64 p1.obj, .int .i64 p1.off]) (by rfl) 0 j).trans (seg_at (n := 3) (by rfl) hj))) ?_
 refine T.pure (.agg #[.int .i64 p1.pfs, .int .i64 p1.obj, .int .i64 p1.off, .int .i64 2147483648]) (by kernel_rfl) (fun _ => by kernel_rfl) ?_
 obtain ⟨r1, hb1, hF⟩ := Option.bind_eq_some_iff.1 hF
 refine T.step (W1.call (vSc eInt) r1 55 #[.slice A1 p0.length c1, .agg #[.int .i64 p1.pfs, .int .i64 p1.obj, .int .i64 p1.off, .int .i64 2147483648]] (by kernel_rfl) (fun _ => by kernel_rfl) (fun w' hh => run_place_l F p0 (DSpot.mk p1 2147483648) r1 hb1 w' A1 c1 (SlOk.mono hs1 hh.view)) ?_)
 intro u V1 hV1 hu
 obtain rfl := sureInt _ _ _ hu
 refine T.pure (.int .i64 (IntKind.i64.wrap (r1 - 1))) (by kernel_rfl) (fun _ => by kernel_rfl) ?_
 refine T.pure (.int .i64 (IntKind.i64.wrap (r1 - 1))) (by kernel_rfl) (fun _ => by kernel_rfl) ?_
 refine T.nil ?_
 refine T.seq ?_
 obtain ⟨z1, hX1, hF⟩ := Option.bind_eq_some_iff.1 hF
 refine T.cut (fun a w' => Fr 31 [(5, .int .i64 (IntKind.i64.wrap (r1 - 1))), (29, .bool z1)] a ∧ Hp w V1 [] w') ?_ ?_
 ·
  refine T.quiet (by kernel_rfl) (by kernel_rfl) ?_
  refine TQ.pure (.int .i64 (IntKind.i64.wrap (r1 - 1))) (by kernel_rfl) (fun _ => by kernel_rfl) ?_
  refine TQ.pure (.bool (decide ((IntKind.i64.wrap (r1 - 1)) < 0))) (by kernel_rfl) (fun _ => by kernel_rfl) ?_
  refine TQ.pure (.bool (decide ((IntKind.i64.wrap (r1 - 1)) < 0))) (by kernel_rfl) (fun _ => by kernel_rfl) ?_
  cases hg1 : decide ((IntKind.i64.wrap (r1 - 1)) < 0)
  ·
   skip
   rw [hg1, cond_false] at hX1
   refine TQ.pure (.slice A1 p0.length c1) (by kernel_rfl) (fun _ => by kernel_rfl) ?_
   refine TQ.pure (.int .i64 (IntKind.i64.wrap (r1 - 1))) (by kernel_rfl) (fun _ => by kernel_rfl) ?_
   obtain ⟨e1, hb2, hX1⟩ := Option.bind_eq_some_iff.1 hX1
   obtain ⟨hi1, hi2, hi3⟩ := idx_some hb2
   refine TQ.look (.pointer (some ((sadr A1).add (((IntKind.i64.wrap (r1 - 1)).toNat) * 6)))) (by kernel_rfl) (fun w' hh => exec_indexAddr (e := 36) (s := 6) rfl rfl rfl (by kernel_rfl) (by kernel_rfl) hi1 hi2 ((SlOk.mono hs1 hV1).some_ hi3 (by decide))) ?_
   refine TQ.pure (.pointer (some ((sadr A1).add (((IntKind.i64.wrap (r1 - 1)).toNat) * 6)))) (by kernel_rfl) (fun _ => by kernel_rfl) ?_
   refine TQ.look (.agg #[.int .i64 e1.key.pfs, .int .i64 e1.key.obj, .int .i64 e1.key.off]) (by kernel_rfl) (fun w' hh => exec_loadN (cs := [.int .i64 e1.key.pfs, .int .i64 e1.key.obj, .int .i64 e1.key.off]) rfl rfl (by kernel_rfl) (by kernel_rfl) (fun j u hj => (hh.cell_view (SlOk.cellF (E := eElem) (SlOk.mono hs1 hV1) hi3 j (fun _ _ _ h => h) (take_at (n := 3) rfl hj))))) ?_
   refine TQ.look (.agg #[.int .i64 p1.pfs, .int .i64 p1.obj, .int .i64 p1.off]) (by kernel_rfl) (fun w' hh => exec_loadN (cs := [.int .i64 p1.pfs, .int .i64 p1.obj, .int .i64 p1.off]) rfl rfl (by kernel_rfl) (by kernel_rfl) (fun j u hj => (hh.box_at (i := 0) (cs := [.int .i64 p1.pfs, .int .i64 p1.obj, .int .i64 p1.off]) (by rfl) 0 j).trans (seg_at (n := 3) (by rfl) hj))) ?_
   refine TQ.look (.bool (!(e1.key == p1))) (by kernel_rfl) (fun w' hh => exec_neq_DKey e1.key p1 w' rfl rfl rfl) ?_
   refine TQ.pure (.bool (!(e1.key == p1))) (by kernel_rfl) (fun _ => by kernel_rfl) ?_
   refine TQ.pure (.bool (!(e1.key == p1))) (by kernel_rfl) (fun _ => by kernel_rfl) ?_
   cases hg2 : (!(e1.key == p1))
   ·
    skip
    rw [hg2, cond_false] at hX1
    refine TQ.pure (.slice A1 p0.length c1) (by kernel_rfl) (fun _ => by kernel_rfl) ?_
    refine TQ.pure (.int .i64 (IntKind.i64.wrap (r1 - 1))) (by kernel_rfl) (fun _ => by kernel_rfl) ?_
    obtain ⟨e2, hb3, hX1⟩ := Option.bind_eq_some_iff.1 hX1
    obtain ⟨hi4, hi5, hi6⟩ := idx_some hb3
    refine TQ.look (.pointer (some ((sadr A1).add (((IntKind.i64.wrap (r1 - 1)).toNat) * 6)))) (by kernel_rfl) (fun w' hh => exec_indexAddr (e := 36) (s := 6) rfl rfl rfl (by kernel_rfl) (by kernel_rfl) hi4 hi5 ((SlOk.mono hs1 hV1).some_ hi6 (by decide))) ?_
    refine TQ.pure (.pointer (some (((sadr A1).add (((IntKind.i64.wrap (r1 - 1)).toNat) * 6)).add 4))) (by kernel_rfl) (fun _ => by kernel_rfl) ?_
    refine TQ.look (.int .i64 e2.gone) (by kernel_rfl) (fun w' hh => exec_load1 rfl rfl (by kernel_rfl) (hh.cell_view (SlOk.cellF (E := eElem) (SlOk.mono hs1 hV1) hi6 4 (fun _ _ _ h => h) rfl))) ?_
    refine TQ.pure (.bool (e2.gone != 0)) (by kernel_rfl) (fun _ => by kernel_rfl) ?_
    refine TQ.pure (.bool (e2.gone != 0)) (by kernel_rfl) (fun _ => by kernel_rfl) ?_
    refine TQ.nil ?_
    cases hX1
    exact fun a w' hf hh => And.intro (((Fr.nil hf).pick hf 29 rfl).pick hf 5 rfl) (hh.sub (.cons _ List.Sublist.slnil))
   ·
    skip
    rw [hg2, cond_true] at hX1
    refine TQ.pass (by kernel_rfl) (by kernel_rfl) ?_
    refine TQ.pass (by kernel_rfl) (by kernel_rfl) ?_
    refine TQ.pass (by kernel_rfl) (by kernel_rfl) ?_
    refine TQ.pass (by kernel_rfl) (by kernel_rfl) ?_
    refine TQ.pass (by kernel_rfl) (by kernel_rfl) ?_
    refine TQ.pass (by kernel_rfl) (by kernel_rfl) ?_
    refine TQ.pure (.bool true) (by kernel_rfl) (fun _ => by kernel_rfl) ?_
    refine TQ.nil ?_
    cases hX1
    exact fun a w' hf hh => And.intro (((Fr.nil hf).pick hf 29 rfl).pick hf 5 rfl) (hh.sub (.cons _ List.Sublist.slnil))
  ·
   skip
   rw [hg1, cond_true] at hX1
   refine TQ.pass (by kernel_rfl) (by kernel_rfl) ?_
   refine TQ.pass (by kernel_rfl) (by kernel_rfl) ?_
   refine TQ.pass (by kernel_rfl) (by kernel_rfl) ?_
   refine TQ.pass (by kernel_rfl) (by kernel_rfl) ?_
   refine TQ.pass (by kernel_rfl) (by kernel_rfl) ?_
   refine TQ.pass (by kernel_rfl) (by kernel_rfl) ?_
   refine TQ.pass (by kernel_rfl) (by kernel_rfl) ?_
   refine TQ.pure (.bool true) (by kernel_rfl) (fun _ => by kernel_rfl) ?_
   refine TQ.pure (.bool true) (by kernel_rfl) (fun _ => by kernel_rfl) ?_
   refine TQ.pass (by kernel_rfl) (by kernel_rfl) ?_
   refine TQ.pass (by kernel_rfl) (by kernel_rfl) ?_
   refine TQ.pass (by kernel_rfl) (by kernel_rfl) ?_
   refine TQ.pass (by kernel_rfl) (by kernel_rfl) ?_
   refine TQ.pass (by kernel_rfl) (by kernel_rfl) ?_
   refine TQ.pass (by kernel_rfl) (by kernel_rfl) ?_
   refine TQ.pure (.bool true) (by kernel_rfl) (fun _ => by kernel_rfl) ?_
   refine TQ.nil ?_
   cases hX1
   exact fun a w' hf hh => And.intro (((Fr.nil hf).pick hf 29 rfl).pick hf 5 rfl) (hh.sub (.cons _ List.Sublist.slnil))
 ·
  rintro a w' ⟨hf, hh⟩
  refine (?_ : T 31 w V1 [] [(5, .int .i64 (IntKind.i64.wrap (r1 - 1))), (29, .bool z1)] _) a w' hf hh
  clear hf hh
  refine T.cond z1 (by kernel_rfl) (by kernel_rfl) (fun hc1 => ?_) (fun hc1 => ?_)
  ·
   rw [hc1, cond_true] at hF
   refine T.seq ?_
   refine T.region ?_
   refine T.pure (.int .i64 (-1)) (by kernel_rfl) (fun _ => by kernel_rfl) ?_
   refine T.nil ?_
   cases hF
   refine T.ret rfl ?_
   exact T.ret1 rfl (ResIs.tmp rfl) fun w' hh => ⟨_, rfl, hh.below, (show _ from rfl)⟩
  ·
   rw [hc1, cond_false] at hF
   refine T.skip_code ?_
   refine T.seq ?_
   refine T.region ?_
   refine T.pure (.int .i64 (IntKind.i64.wrap (r1 - 1))) (by kernel_rfl) (fun _ => by kernel_rfl) ?_
   refine T.pure (.int .i64 (IntKind.i64.wrap (r1 - 1))) (by kernel_rfl) (fun _ => by kernel_rfl) ?_
   refine T.nil ?_
   cases hF
   refine T.ret rfl ?_
   exact T.ret1 rfl (ResIs.tmp rfl) fun w' hh => ⟨_, rfl, hh.below, (show _ from rfl)⟩

set_option maxRecDepth 100000 in
set_option maxHeartbeats 4000000 in
theorem run_At_l (F : Nat) (p0 : (List DElem)) (p1 : DKey) (p2 : Int) (r : DElem × Int) (hF : run_At F p0 p1 p2 = some r) (w : World) (A1 : Option Addr) (c1 : Nat) (hs1 : SlOk (vw w) eElem A1 c1 p0) :
    Calls Tryd.prog 28 #[.slice A1 p0.length c1, .agg #[.int .i64 p1.pfs, .int .i64 p1.obj, .int .i64 p1.off], .int .i64 p2] w (Post (vT2 (vAg eElem) (vSc eInt)) r w) := by
 unfold run_At at hF
 refine T.start (l := [.slice A1 p0.length c1, .agg #[.int .i64 p1.pfs, .int .i64 p1.obj, .int .i64 p1.off], .int .i64 p2]) Tryd.func28 rfl rfl rfl ?_
 refine T.seq ?_
 refine T.region ?_
 refine T.step (W1.new 34 [.int .i64 p1.pfs, .int .i64 p1.obj, .int .i64 p1.off] (fun b => .pointer (some ⟨b, 0, none⟩)) (by kernel_rfl) (fun _ => by kernel_rfl) (fun b1 => ?_))
 refine T.step (W1.new 36 [.int .i64 0, .int .i64 0, .int .i64 0, .int .i64 0, .int .i64 0, .string (ByteArray.mk #[])] (fun b => .pointer (some ⟨b, 0, none⟩)) (by kernel_rfl) (fun _ => by kernel_rfl) (fun b2 => ?_))
 refine T.pure (.int .i64 0) (by kernel_rfl) (fun _ => by kernel_rfl) ?_
 refine T.nil ?_
 refine T.seq ?_
 refine T.seq ?_
 refine T.region ?_
 refine T.pure (.slice A1 p0.length c1) (by kernel_rfl) (fun _ => by kernel_rfl) ?_
 obtain ⟨r1, hb1, hF⟩ := Option.bind_eq_some_iff.1 hF
 refine T.step (W1.call (vSc eInt) r1 15 #[.slice A1 p0.length c1] (by kernel_rfl) (fun _ => by kernel_rfl) (fun w' hh => run_Check_l F p0 r1 hb1 w' A1 c1 (SlOk.mono hs1 hh.view)) ?_)
 intro u V1 hV1 hu
 obtain rfl := sureInt _ _ _ hu
 refine T.pure (.int .i64 r1) (by kernel_rfl) (fun _ => by kernel_rfl) ?_
 refine T.nil ?_
 refine T.seq ?_
 refine T.region ?_
 refine T.pure (.int .i64 r1) (by kernel_rfl) (fun _ => by kernel_rfl) ?_
 refine T.pure (.bool (r1 != 0)) (by kernel_rfl) (fun _ => by kernel_rfl) ?_
 refine T.nil ?_
 refine T.cond (r1 != 0) (by kernel_rfl) (by kernel_rfl) (fun hc1 => ?_) (fun hc1 => ?_)
 ·
  rw [hc1, cond_true] at hF
  refine T.seq ?_
  refine T.region ?_
  refine T.pure (.agg #[.int .i64 0, .int .i64 0, .int .i64 0, .int .i64 0, .int .i64 0, .string (ByteArray.mk #[])]) (by kernel_rfl) (fun _ => by kernel_rfl) ?_
  refine T.pure (.int .i64 r1) (by kernel_rfl) (fun _ => by kernel_rfl) ?_
  refine T.step (W1.store 0 [.int .i64 0, .int .i64 0, .int .i64 0, .int .i64 0, .int .i64 0, .string (ByteArray.mk #[])] [box b2 36 [.int .i64 0, .int .i64 0, .int .i64 0, .int .i64 0, .int .i64 0, .string (ByteArray.mk #[])], box b1 34 [.int .i64 p1.pfs, .int .i64 p1.obj, .int .i64 p1.off]] (by rfl) rfl (by kernel_rfl) (fun w' hw => exec_store (vs := [.int .i64 0, .int .i64 0, .int .i64 0, .int .i64 0, .int .i64 0, .string (ByteArray.mk #[])]) rfl rfl rfl rfl (by kernel_rfl) (one_of rfl) (by simp) rfl hw) ?_)
  refine T.pure (.int .i64 r1) (by kernel_rfl) (fun _ => by kernel_rfl) ?_
  refine T.nil ?_
  cases hF
  refine T.ret rfl ?_
  exact T.ret2 rfl (ResIs.cellN 0 rfl (by rfl) (fun _ => by kernel_rfl) (fun _ => by kernel_rfl)) (ResIs.tmp rfl) fun w' hh => ⟨_, rfl, hh.below, (vT2.mk (vAg.mk rfl) (show _ from rfl))⟩
 ·
  rw [hc1, cond_false] at hF
  refine T.skip_code ?_
  refine T.seq ?_
  refine T.seq ?_
  refine T.region ?_
  refine T.look (.agg #[.int .i64 p1.pfs, .int .i64 p1.obj, .int .i64 p1.off]) (by kernel_rfl) (fun w' hh => exec_loadN (cs := [.int .i64 p1.pfs, .int .i64 p1.obj, .int .i64 p1.off]) rfl rfl (by kernel_rfl) (by kernel_rfl) (fun j u hj => (hh.box_at (i := 1) (cs := [.int .i64 p1.pfs, .int .i64 p1.obj, .int .i64 p1.off]) (by rfl) 0 j).trans (seg_at (n := 3) (by rfl) hj))) ?_
  obtain ⟨r2, hb2, hF⟩ := Option.bind_eq_some_iff.1 hF
  refine T.step (W1.call (vSc eInt) r2 51 #[.agg #[.int .i64 p1.pfs, .int .i64 p1.obj, .int .i64 p1.off]] (by kernel_rfl) (fun _ => by kernel_rfl) (fun w' hh => key_Check_l p1 r2 hb2 w' ) ?_)
  intro u V2 hV2 hu
  obtain rfl := sureInt _ _ _ hu
  refine T.pure (.int .i64 r2) (by kernel_rfl) (fun _ => by kernel_rfl) ?_
  refine T.nil ?_
  refine T.seq ?_
  refine T.region ?_
  refine T.pure (.int .i64 r2) (by kernel_rfl) (fun _ => by kernel_rfl) ?_
  refine T.pure (.bool (r2 != 0)) (by kernel_rfl) (fun _ => by kernel_rfl) ?_
  refine T.nil ?_
  refine T.cond (r2 != 0) (by kernel_rfl) (by kernel_rfl) (fun hc2 => ?_) (fun hc2 => ?_)
  ·
   rw [hc2, cond_true] at hF
   refine T.seq ?_
   refine T.region ?_
   refine T.pure (.agg #[.int .i64 0, .int .i64 0, .int .i64 0, .int .i64 0, .int .i64 0, .string (ByteArray.mk #[])]) (by kernel_rfl) (fun _ => by kernel_rfl) ?_
   refine T.pure (.int .i64 r2) (by kernel_rfl) (fun _ => by kernel_rfl) ?_
   refine T.step (W1.store 0 [.int .i64 0, .int .i64 0, .int .i64 0, .int .i64 0, .int .i64 0, .string (ByteArray.mk #[])] [box b2 36 [.int .i64 0, .int .i64 0, .int .i64 0, .int .i64 0, .int .i64 0, .string (ByteArray.mk #[])], box b1 34 [.int .i64 p1.pfs, .int .i64 p1.obj, .int .i64 p1.off]] (by rfl) rfl (by kernel_rfl) (fun w' hw => exec_store (vs := [.int .i64 0, .int .i64 0, .int .i64 0, .int .i64 0, .int .i64 0, .string (ByteArray.mk #[])]) rfl rfl rfl rfl (by kernel_rfl) (one_of rfl) (by simp) rfl hw) ?_)
   refine T.pure (.int .i64 r2) (by kernel_rfl) (fun _ => by kernel_rfl) ?_
   refine T.nil ?_
   cases hF
   refine T.ret rfl ?_
   exact T.ret2 rfl (ResIs.cellN 0 rfl (by rfl) (fun _ => by kernel_rfl) (fun _ => by kernel_rfl)) (ResIs.tmp rfl) fun w' hh => ⟨_, rfl, hh.below, (vT2.mk (vAg.mk rfl) (show _ from rfl))⟩
  ·
   rw [hc2, cond_false] at hF
   refine T.skip_code ?_
   refine T.seq ?_
   refine T.seq ?_
   refine T.region ?_
   refine T.pure (.slice A1 p0.length c1) (by kernel_rfl) (fun _ => by kernel_rfl) ?_
   refine T.pure (.int .i64 (p0.length : Int)) (by kernel_rfl) (fun _ => by kernel_rfl) ?_
   refine T.pure (.int .i64 0) (by kernel_rfl) (fun _ => by kernel_rfl) ?_
   refine T.nil ?_
   obtain ⟨q1, hz1, hF⟩ := Option.bind_eq_some_iff.1 hF
   refine T.mid (fun a w' => q1 = Sum.inl () ∧ ∃ (V4 : View), View.le V2 V4 ∧ Fr 42 [(6, .pointer (some ⟨b2, 0, none⟩))] a ∧ Hp w V4 [box b2 36 [.int .i64 0, .int .i64 0, .int .i64 0, .int .i64 0, .int .i64 0, .string (ByteArray.mk #[])]] w') ?_ ?_
   ·
    refine T.block ?_
    refine T.iter (fun x1 a w' => ∃ (V3 : View), View.le V2 V3 ∧ Fr 42 [(2, .int .i64 p2), (4, .pointer (some ⟨b1, 0, none⟩)), (6, .pointer (some ⟨b2, 0, none⟩)), (24, .slice A1 p0.length c1), (25, .int .i64 (p0.length : Int)), (26, .int .i64 x1)] a ∧ Hp w V3 [box b2 36 [.int .i64 0, .int .i64 0, .int .i64 0, .int .i64 0, .int .i64 0, .string (ByteArray.mk #[])], box b1 34 [.int .i64 p1.pfs, .int .i64 p1.obj, .int .i64 p1.off]] w') hz1 ?_ ?_
    ·
     exact fun a w' hf hh => Exists.intro V2 (And.intro (View.le_refl _) (And.intro (((((((Fr.nil hf).pick hf 26 rfl).pick hf 25 rfl).pick hf 24 rfl).pick hf 6 rfl).pick hf 4 rfl).pick hf 2 rfl) (hh.sub (.cons_cons _ (.cons_cons _ List.Sublist.slnil)))))
    ·
     rintro x1 y1 hY1 hr1 a w' ⟨V3, hV3, hf, hh⟩
     refine (?_ : T 42 w V3 [box b2 36 [.int .i64 0, .int .i64 0, .int .i64 0, .int .i64 0, .int .i64 0, .string (ByteArray.mk #[])], box b1 34 [.int .i64 p1.pfs, .int .i64 p1.obj, .int .i64 p1.off]] [(2, .int .i64 p2), (4, .pointer (some ⟨b1, 0, none⟩)), (6, .pointer (some ⟨b2, 0, none⟩)), (24, .slice A1 p0.length c1), (25, .int .i64 (p0.length : Int)), (26, .int .i64 x1)] _) a w' hf hh
     clear hf hh
     try dsimp only at hY1
     refine T.seq ?_
     refine T.region ?_
     refine T.pure (.bool (decide (x1 < (p0.length : Int)))) (by kernel_rfl) (fun _ => by kernel_rfl) ?_
     refine T.nil ?_
     refine T.seq ?_
     refine T.cond (decide (x1 < (p0.length : Int))) (by kernel_rfl) (by kernel_rfl) (fun hc3 => ?_) (fun hc3 => ?_)
     ·
      rw [hc3, cond_true] at hY1
      refine T.skip_code ?_
      refine T.seq ?_
      refine T.block ?_
      refine T.seq ?_
      refine T.region ?_
      obtain ⟨e1, hb3, hY1⟩ := Option.bind_eq_some_iff.1 hY1
      obtain ⟨hi1, hi2, hi3⟩ := idx_some hb3
      refine T.look (.pointer (some ((sadr A1).add (x1.toNat * 6)))) (by kernel_rfl) (fun w' hh => exec_indexAddr (e := 36) (s := 6) rfl rfl rfl (by kernel_rfl) (by kernel_rfl) hi1 hi2 ((SlOk.mono hs1 (View.le_trans (View.le_trans hV1 hV2) hV3)).some_ hi3 (by decide))) ?_
      refine T.look (.agg #[.int .i64 e1.key.pfs, .int .i64 e1.key.obj, .int .i64 e1.key.off, .int .i64 e1.made, .int .i64 e1.gone, .string e1.val]) (by kernel_rfl) (fun w' hh => exec_loadN (cs := [.int .i64 e1.key.pfs, .int .i64 e1.key.obj, .int .i64 e1.key.off, .int .i64 e1.made, .int .i64 e1.gone, .string e1.val]) rfl rfl (by kernel_rfl) (by kernel_rfl) (fun j u hj => (hh.cell_view (SlOk.cellF (E := eElem) (SlOk.mono hs1 (View.le_trans (View.le_trans hV1 hV2) hV3)) hi3 j (fun _ _ _ h => h) hj)))) ?_
      refine T.step (W1.new 36 [.int .i64 0, .int .i64 0, .int .i64 0, .int .i64 0, .int .i64 0, .string (ByteArray.mk #[])] (fun b => .pointer (some ⟨b, 0, none⟩)) (by kernel_rfl) (fun _ => by kernel_rfl) (fun b3 => ?_))
      refine T.step (W1.store 0 [.int .i64 e1.key.pfs, .int .i64 e1.key.obj, .int .i64 e1.key.off, .int .i64 e1.made, .int .i64 e1.gone, .string e1.val] [box b3 36 [.int .i64 e1.key.pfs, .int .i64 e1.key.obj, .int .i64 e1.key.off, .int .i64 e1.made, .int .i64 e1.gone, .string e1.val], box b2 36 [.int .i64 0, .int .i64 0, .int .i64 0, .int .i64 0, .int .i64 0, .string (ByteArray.mk #[])], box b1 34 [.int .i64 p1.pfs, .int .i64 p1.obj, .int .i64 p1.off]] (by rfl) rfl (by kernel_rfl) (fun w' hw => exec_store (vs := [.int .i64 e1.key.pfs, .int .i64 e1.key.obj, .int .i64 e1.key.off, .int .i64 e1.made, .int .i64 e1.gone, .string e1.val]) rfl rfl rfl rfl (by kernel_rfl) (one_of rfl) (by simp) rfl hw) ?_)
      refine T.nil ?_
      obtain ⟨z1, hX1, hY1⟩ := Option.bind_eq_some_iff.1 hY1
      refine T.cut (fun a w' => ∃ (V5 : View), View.le V3 V5 ∧ Fr 42 [(2, .int .i64 p2), (4, .pointer (some ⟨b1, 0, none⟩)), (6, .pointer (some ⟨b2, 0, none⟩)), (11, .pointer (some ⟨b3, 0, none⟩)), (24, .slice A1 p0.length c1), (25, .int .i64 (p0.length : Int)), (26, .int .i64 x1), (38, .bool z1)] a ∧ Hp w V5 [box b3 36 [.int .i64 e1.key.pfs, .int .i64 e1.key.obj, .int .i64 e1.key.off, .int .i64 e1.made, .int .i64 e1.gone, .string e1.val], box b2 36 [.int .i64 0, .int .i64 0, .int .i64 0, .int .i64 0, .int .i64 0, .string (ByteArray.mk #[])], box b1 34 [.int .i64 p1.pfs, .int .i64 p1.obj, .int .i64 p1.off]] w') ?_ ?_
      ·
       refine T.region ?_
       refine T.pure (.pointer (some ⟨b3, 0, none⟩)) (by kernel_rfl) (fun _ => by kernel_rfl) ?_
       refine T.look (.agg #[.int .i64 e1.key.pfs, .int .i64 e1.key.obj, .int .i64 e1.key.off]) (by kernel_rfl) (fun w' hh => exec_loadN (cs := [.int .i64 e1.key.pfs, .int .i64 e1.key.obj, .int .i64 e1.key.off]) rfl rfl (by kernel_rfl) (by kernel_rfl) (fun j u hj => (hh.box_at (i := 0) (cs := [.int .i64 e1.key.pfs, .int .i64 e1.key.obj, .int .i64 e1.key.off, .int .i64 e1.made, .int .i64 e1.gone, .string e1.val]) (by rfl) 0 j).trans (seg_at (n := 3) (by rfl) hj))) ?_
       refine T.look (.agg #[.int .i64 p1.pfs, .int .i64 p1.obj, .int .i64 p1.off]) (by kernel_rfl) (fun w' hh => exec_loadN (cs := [.int .i64 p1.pfs, .int .i64 p1.obj, .int .i64 p1.off]) rfl rfl (by kernel_rfl) (by kernel_rfl) (fun j u hj => (hh.box_at (i := 2) (cs := [.int .i64 p1.pfs, .int .i64 p1.obj, .int .i64 p1.off]) (by rfl) 0 j).trans (seg_at (n := 3) (by rfl) hj))) ?_
       refine T.look (.bool (e1.key == p1)) (by kernel_rfl) (fun w' hh => exec_eql_DKey e1.key p1 w' rfl rfl rfl) ?_
       refine T.pure (.bool (e1.key == p1)) (by kernel_rfl) (fun _ => by kernel_rfl) ?_
       cases hg1 : (e1.key == p1)
       ·
        skip
        rw [hg1, cond_false] at hX1
        refine T.pass (by kernel_rfl) (by kernel_rfl) ?_
        refine T.pass (by kernel_rfl) (by kernel_rfl) ?_
        refine T.pass (by kernel_rfl) (by kernel_rfl) ?_
        refine T.pure (.bool false) (by kernel_rfl) (fun _ => by kernel_rfl) ?_
        refine T.nil ?_
        cases hX1
        exact fun a w' hf hh => Exists.intro V3 (And.intro (View.le_refl _) (And.intro (((((((((Fr.nil hf).pick hf 38 rfl).pick hf 26 rfl).pick hf 25 rfl).pick hf 24 rfl).pick hf 11 rfl).pick hf 6 rfl).pick hf 4 rfl).pick hf 2 rfl) (hh.sub (.cons_cons _ (.cons_cons _ (.cons_cons _ List.Sublist.slnil))))))
       ·
        skip
        rw [hg1, cond_true] at hX1
        refine T.look (.agg #[.int .i64 e1.key.pfs, .int .i64 e1.key.obj, .int .i64 e1.key.off, .int .i64 e1.made, .int .i64 e1.gone, .string e1.val]) (by kernel_rfl) (fun w' hh => exec_loadN (cs := [.int .i64 e1.key.pfs, .int .i64 e1.key.obj, .int .i64 e1.key.off, .int .i64 e1.made, .int .i64 e1.gone, .string e1.val]) rfl rfl (by kernel_rfl) (by kernel_rfl) (fun j u hj => (hh.box_at (i := 0) (cs := [.int .i64 e1.key.pfs, .int .i64 e1.key.obj, .int .i64 e1.key.off, .int .i64 e1.made, .int .i64 e1.gone, .string e1.val]) (by rfl) 0 j).trans (seg_at (n := 6) (by rfl) hj))) ?_
        refine T.pure (.int .i64 p2) (by kernel_rfl) (fun _ => by kernel_rfl) ?_
        obtain ⟨r3, hb4, hX1⟩ := Option.bind_eq_some_iff.1 hX1
        refine T.step (W1.call (vSc eBool) r3 44 #[.agg #[.int .i64 e1.key.pfs, .int .i64 e1.key.obj, .int .i64 e1.key.off, .int .i64 e1.made, .int .i64 e1.gone, .string e1.val], .int .i64 p2] (by kernel_rfl) (fun _ => by kernel_rfl) (fun w' hh => elem_Live_l e1 p2 r3 hb4 w' ) ?_)
        intro u V6 hV6 hu
        obtain rfl := sureBool _ _ _ hu
        refine T.pure (.bool r3) (by kernel_rfl) (fun _ => by kernel_rfl) ?_
        refine T.nil ?_
        cases hX1
        exact fun a w' hf hh => Exists.intro V6 (And.intro hV6 (And.intro (((((((((Fr.nil hf).pick hf 38 rfl).pick hf 26 rfl).pick hf 25 rfl).pick hf 24 rfl).pick hf 11 rfl).pick hf 6 rfl).pick hf 4 rfl).pick hf 2 rfl) (hh.sub (.cons_cons _ (.cons_cons _ (.cons_cons _ List.Sublist.slnil))))))
      ·
       rintro a w' ⟨V5, hV5, hf, hh⟩
       refine (?_ : T 42 w V5 [box b3 36 [.int .i64 e1.key.pfs, .int .i64 e1.key.obj, .int .i64 e1.key.off, .int .i64 e1.made, .int .i64 e1.gone, .string e1.val], box b2 36 [.int .i64 0, .int .i64 0, .int .i64 0, .int .i64 0, .int .i64 0, .string (ByteArray.mk #[])], box b1 34 [.int .i64 p1.pfs, .int .i64 p1.obj, .int .i64 p1.off]] [(2, .int .i64 p2), (4, .pointer (some ⟨b1, 0, none⟩)), (6, .pointer (some ⟨b2, 0, none⟩)), (11, .pointer (some ⟨b3, 0, none⟩)), (24, .slice A1 p0.length c1), (25, .int .i64 (p0.length : Int)), (26, .int .i64 x1), (38, .bool z1)] _) a w' hf hh
       clear hf hh
       refine T.cond z1 (by kernel_rfl) (by kernel_rfl) (fun hc4 => ?_) (fun hc4 => ?_)
       ·
        rw [hc4, cond_true] at hY1
        refine T.seq ?_
        refine T.region ?_
        refine T.look (.agg #[.int .i64 e1.key.pfs, .int .i64 e1.key.obj, .int .i64 e1.key.off, .int .i64 e1.made, .int .i64 e1.gone, .string e1.val]) (by kernel_rfl) (fun w' hh => exec_loadN (cs := [.int .i64 e1.key.pfs, .int .i64 e1.key.obj, .int .i64 e1.key.off, .int .i64 e1.made, .int .i64 e1.gone, .string e1.val]) rfl rfl (by kernel_rfl) (by kernel_rfl) (fun j u hj => (hh.box_at (i := 0) (cs := [.int .i64 e1.key.pfs, .int .i64 e1.key.obj, .int .i64 e1.key.off, .int .i64 e1.made, .int .i64 e1.gone, .string e1.val]) (by rfl) 0 j).trans (seg_at (n := 6) (by rfl) hj))) ?_
        refine T.step (W1.store 1 [.int .i64 e1.key.pfs, .int .i64 e1.key.obj, .int .i64 e1.key.off, .int .i64 e1.made, .int .i64 e1.gone, .string e1.val] [box b3 36 [.int .i64 e1.key.pfs, .int .i64 e1.key.obj, .int .i64 e1.key.off, .int .i64 e1.made, .int .i64 e1.gone, .string e1.val], box b2 36 [.int .i64 e1.key.pfs, .int .i64 e1.key.obj, .int .i64 e1.key.off, .int .i64 e1.made, .int .i64 e1.gone, .string e1.val], box b1 34 [.int .i64 p1.pfs, .int .i64 p1.obj, .int .i64 p1.off]] (by rfl) rfl (by kernel_rfl) (fun w' hw => exec_store (vs := [.int .i64 e1.key.pfs, .int .i64 e1.key.obj, .int .i64 e1.key.off, .int .i64 e1.made, .int .i64 e1.gone, .string e1.val]) rfl rfl rfl rfl (by kernel_rfl) (one_of rfl) (by simp) rfl hw) ?_)
        refine T.pure (.int .i64 0) (by kernel_rfl) (fun _ => by kernel_rfl) ?_
        refine T.nil ?_
        cases hY1
        cases (hr1 _ rfl)
        try dsimp only at hF
        cases hF
        refine T.ret rfl ?_
        exact T.ret2 rfl (ResIs.cellN 1 rfl (by rfl) (fun _ => by kernel_rfl) (fun _ => by kernel_rfl)) (ResIs.tmp rfl) fun w' hh => ⟨_, rfl, hh.below, (vT2.mk (vAg.mk rfl) (show _ from rfl))⟩
       ·
        rw [hc4, cond_false] at hY1
        refine T.skip_code ?_
        refine T.region ?_
        refine T.pure (.int .i64 (IntKind.i64.wrap (x1 + 1))) (by kernel_rfl) (fun _ => by kernel_rfl) ?_
        refine T.pure (.int .i64 (IntKind.i64.wrap (x1 + 1))) (by kernel_rfl) (fun _ => by kernel_rfl) ?_
        refine T.nil ?_
        cases hY1
        exact fun a w' hf hh => Exists.intro (IntKind.i64.wrap (x1 + 1)) (And.intro rfl (Exists.intro V5 (And.intro (View.le_trans hV3 hV5) (And.intro (((((((Fr.nil hf).pick hf 26 rfl).pick hf 25 rfl).pick hf 24 rfl).pick hf 6 rfl).pick hf 4 rfl).pick hf 2 rfl) (hh.sub (.cons _ (.cons_cons _ (.cons_cons _ List.Sublist.slnil))))))))
     ·
      rw [hc3, cond_false] at hY1
      refine T.exit ?_
      cases hY1
      cases (hr1 _ rfl)
      exact fun a w' hf hh => And.intro rfl (Exists.intro V3 (And.intro hV3 (And.intro ((Fr.nil hf).pick hf 6 rfl) (hh.sub (.cons_cons _ (.cons _ List.Sublist.slnil))))))
   ·
    rintro a w' ⟨rfl, V4, hV4, hf, hh⟩
    try dsimp only at hF
    refine (?_ : T 42 w V4 [box b2 36 [.int .i64 0, .int .i64 0, .int .i64 0, .int .i64 0, .int .i64 0, .string (ByteArray.mk #[])]] [(6, .pointer (some ⟨b2, 0, none⟩))] _) a w' hf hh
    clear hf hh
    refine T.seq ?_
    refine T.region ?_
    refine T.pure (.agg #[.int .i64 0, .int .i64 0, .int .i64 0, .int .i64 0, .int .i64 0, .string (ByteArray.mk #[])]) (by kernel_rfl) (fun _ => by kernel_rfl) ?_
    refine T.step (W1.store 0 [.int .i64 0, .int .i64 0, .int .i64 0, .int .i64 0, .int .i64 0, .string (ByteArray.mk #[])] [box b2 36 [.int .i64 0, .int .i64 0, .int .i64 0, .int .i64 0, .int .i64 0, .string (ByteArray.mk #[])]] (by rfl) rfl (by kernel_rfl) (fun w' hw => exec_store (vs := [.int .i64 0, .int .i64 0, .int .i64 0, .int .i64 0, .int .i64 0, .string (ByteArray.mk #[])]) rfl rfl rfl rfl (by kernel_rfl) (one_of rfl) (by simp) rfl hw) ?_)
    refine T.pure (.int .i64 4) (by kernel_rfl) (fun _ => by kernel_rfl) ?_
    refine T.nil ?_
    cases hF
    refine T.ret rfl ?_
    exact T.ret2 rfl (ResIs.cellN 0 rfl (by rfl) (fun _ => by kernel_rfl) (fun _ => by kernel_rfl)) (ResIs.tmp rfl) fun w' hh => ⟨_, rfl, hh.below, (vT2.mk (vAg.mk rfl) (show _ from rfl))⟩

set_option maxRecDepth 100000 in
set_option maxHeartbeats 4000000 in
theorem run_Put_l (F : Nat) (p0 : (List DElem)) (p1 : DKey) (p2 : ByteArray) (p3 : Int) (r : ((List DElem)) × Int) (hF : run_Put F p0 p1 p2 p3 = some r) (w : World) (A1 : Option Addr) (c1 : Nat) (hs1 : SlOk (vw w) eElem A1 c1 p0) :
    Calls Tryd.prog 29 #[.slice A1 p0.length c1, .agg #[.int .i64 p1.pfs, .int .i64 p1.obj, .int .i64 p1.off], .string p2, .int .i64 p3] w (Post (vT2 (vSc (eList eElem)) (vSc eInt)) r w) := by
 unfold run_Put at hF
 refine T.start (l := [.slice A1 p0.length c1, .agg #[.int .i64 p1.pfs, .int .i64 p1.obj, .int .i64 p1.off], .string p2, .int .i64 p3]) Tryd.func29 rfl rfl rfl ?_
 refine T.seq ?_
 refine T.region ?_
 refine T.step (W1.new 34 [.int .i64 p1.pfs, .int .i64 p1.obj, .int .i64 p1.off] (fun b => .pointer (some ⟨b, 0, none⟩)) (by kernel_rfl) (fun _ => by kernel_rfl) (fun b1 => ?_))
 refine T.pure (.slice none 0 0) (by kernel_rfl) (fun _ => by kernel_rfl) ?_
 refine T.pure (.int .i64 0) (by kernel_rfl) (fun _ => by kernel_rfl) ?_
 refine T.nil ?_
 refine T.seq ?_
 refine T.seq ?_
 refine T.region ?_
 refine T.pure (.slice A1 p0.length c1) (by kernel_rfl) (fun _ => by kernel_rfl) ?_
 obtain ⟨r1, hb1, hF⟩ := Option.bind_eq_some_iff.1 hF
 refine T.step (W1.call (vSc eInt) r1 15 #[.slice A1 p0.length c1] (by kernel_rfl) (fun _ => by kernel_rfl) (fun w' hh => run_Check_l F p0 r1 hb1 w' A1 c1 (SlOk.mono hs1 hh.view)) ?_)
 intro u V1 hV1 hu
 obtain rfl := sureInt _ _ _ hu
 refine T.pure (.int .i64 r1) (by kernel_rfl) (fun _ => by kernel_rfl) ?_
 refine T.nil ?_
 refine T.seq ?_
 refine T.region ?_
 refine T.pure (.int .i64 r1) (by kernel_rfl) (fun _ => by kernel_rfl) ?_
 refine T.pure (.bool (r1 != 0)) (by kernel_rfl) (fun _ => by kernel_rfl) ?_
 refine T.nil ?_
 refine T.cond (r1 != 0) (by kernel_rfl) (by kernel_rfl) (fun hc1 => ?_) (fun hc1 => ?_)
 ·
  rw [hc1, cond_true] at hF
  refine T.seq ?_
  refine T.region ?_
  refine T.pure (.int .i64 r1) (by kernel_rfl) (fun _ => by kernel_rfl) ?_
  refine T.pure (.slice none 0 0) (by kernel_rfl) (fun _ => by kernel_rfl) ?_
  refine T.pure (.int .i64 r1) (by kernel_rfl) (fun _ => by kernel_rfl) ?_
  refine T.nil ?_
  cases hF
  refine T.ret rfl ?_
  exact T.ret2 rfl (ResIs.tmp rfl) (ResIs.tmp rfl) fun w' hh => ⟨_, rfl, hh.below, (vT2.mk ⟨_, _, rfl, (SlOk.nil _ _)⟩ (show _ from rfl))⟩
 ·
  rw [hc1, cond_false] at hF
  refine T.skip_code ?_
  refine T.seq ?_
  refine T.seq ?_
  refine T.region ?_
  refine T.look (.agg #[.int .i64 p1.pfs, .int .i64 p1.obj, .int .i64 p1.off]) (by kernel_rfl) (fun w' hh => exec_loadN (cs := [.int .i64 p1.pfs, .int .i64 p1.obj, .int .i64 p1.off]) rfl rfl (by kernel_rfl) (by kernel_rfl) (fun j u hj => (hh.box_at (i := 0) (cs := [.int .i64 p1.pfs, .int .i64 p1.obj, .int .i64 p1.off]) (by rfl) 0 j).trans (seg_at (n := 3) (by rfl) hj))) ?_
  refine T.pure (.int .i64 p3) (by kernel_rfl) (fun _ => by kernel_rfl) ?_
  refine T.pure (.string p2) (by kernel_rfl) (fun _ => by kernel_rfl) ?_
  refine T.pure (.agg #[.int .i64 p1.pfs, .int .i64 p1.obj, .int .i64 p1.off, .int .i64 p3, .int .i64 0, .string p2]) (by kernel_rfl) (fun _ => by kernel_rfl) ?_
  obtain ⟨r2, hb2, hF⟩ := Option.bind_eq_some_iff.1 hF
  refine T.step (W1.call (vSc eInt) r2 37 #[.agg #[.int .i64 p1.pfs, .int .i64 p1.obj, .int .i64 p1.off, .int .i64 p3, .int .i64 0, .string p2]] (by kernel_rfl) (fun _ => by kernel_rfl) (fun w' hh => elem_Check_l (DElem.mk p1 p3 0 p2) r2 hb2 w' ) ?_)
  intro u V2 hV2 hu
  obtain rfl := sureInt _ _ _ hu
  refine T.pure (.int .i64 r2) (by kernel_rfl) (fun _ => by kernel_rfl) ?_
  refine T.nil ?_
  refine T.seq ?_
  refine T.region ?_
  refine T.pure (.int .i64 r2) (by kernel_rfl) (fun _ => by kernel_rfl) ?_
  refine T.pure (.bool (r2 != 0)) (by kernel_rfl) (fun _ => by kernel_rfl) ?_
  refine T.nil ?_
  refine T.cond (r2 != 0) (by kernel_rfl) (by kernel_rfl) (fun hc2 => ?_) (fun hc2 => ?_)
  ·
   rw [hc2, cond_true] at hF
   refine T.seq ?_
   refine T.region ?_
   refine T.pure (.int .i64 r2) (by kernel_rfl) (fun _ => by kernel_rfl) ?_
   refine T.pure (.slice none 0 0) (by kernel_rfl) (fun _ => by kernel_rfl) ?_
   refine T.pure (.int .i64 r2) (by kernel_rfl) (fun _ => by kernel_rfl) ?_
   refine T.nil ?_
   cases hF
   refine T.ret rfl ?_
   exact T.ret2 rfl (ResIs.tmp rfl) (ResIs.tmp rfl) fun w' hh => ⟨_, rfl, hh.below, (vT2.mk ⟨_, _, rfl, (SlOk.nil _ _)⟩ (show _ from rfl))⟩
  ·
   rw [hc2, cond_false] at hF
   refine T.skip_code ?_
   refine T.seq ?_
   refine T.seq ?_
   refine T.region ?_
   refine T.pure (.int .i64 p3) (by kernel_rfl) (fun _ => by kernel_rfl) ?_
   refine T.pure (.slice A1 p0.length c1) (by kernel_rfl) (fun _ => by kernel_rfl) ?_
   obtain ⟨r3, hb3, hF⟩ := Option.bind_eq_some_iff.1 hF
   refine T.step (W1.call (vSc eInt) r3 53 #[.slice A1 p0.length c1] (by kernel_rfl) (fun _ => by kernel_rfl) (fun w' hh => run_last_l F p0 r3 hb3 w' A1 c1 (SlOk.mono (SlOk.mono hs1 (View.le_trans hV1 hV2)) hh.view)) ?_)
   intro u V3 hV3 hu
   obtain rfl := sureInt _ _ _ hu
   refine T.pure (.bool (decide (p3 < r3))) (by kernel_rfl) (fun _ => by kernel_rfl) ?_
   refine T.nil ?_
   refine T.cond (decide (p3 < r3)) (by kernel_rfl) (by kernel_rfl) (fun hc3 => ?_) (fun hc3 => ?_)
   ·
    rw [hc3, cond_true] at hF
    refine T.seq ?_
    refine T.region ?_
    refine T.pure (.slice none 0 0) (by kernel_rfl) (fun _ => by kernel_rfl) ?_
    refine T.pure (.int .i64 9) (by kernel_rfl) (fun _ => by kernel_rfl) ?_
    refine T.nil ?_
    cases hF
    refine T.ret rfl ?_
    exact T.ret2 rfl (ResIs.tmp rfl) (ResIs.tmp rfl) fun w' hh => ⟨_, rfl, hh.below, (vT2.mk ⟨_, _, rfl, (SlOk.nil _ _)⟩ (show _ from rfl))⟩
   ·
    rw [hc3, cond_false] at hF
    refine T.skip_code ?_
    refine T.seq ?_
    refine T.region ?_
    refine T.pure (.slice A1 p0.length c1) (by kernel_rfl) (fun _ => by kernel_rfl) ?_
    refine T.rownil 36 eElem ?_
    obtain ⟨y1, hb4, hF⟩ := Option.bind_eq_some_iff.1 hF
    obtain ⟨hb4_r, hb4_m, rfl⟩ := grow_some hb4
    obtain ⟨ti, hti, hz1, hz2, hz3⟩ := info_parts (P := Tryd.prog) (e := 36) (z := .agg #[.int .i64 0, .int .i64 0, .int .i64 0, .int .i64 0, .int .i64 0, .string (ByteArray.mk #[])]) (size := 6) (bytes := 56) (by kernel_rfl)
    refine T.step (W1.append (E := eElem) (l := ([] : List DElem)) (m := p0) 0 _ _ 56 ti _ (by rfl) (by kernel_rfl) rfl (by kernel_rfl) hti hz1 hz2 hz3 rfl (by decide) rfl rfl (fun w' hh => (SlOk.srcF (SlOk.mono (SlOk.mono hs1 (View.le_trans (View.le_trans hV1 hV2) hV3)) hh.view) (fun _ _ _ _ h => h))) hb4_r hb4_m (fun A2 c2 => ?_))
    refine T.pure (.slice A2 ((([] : List DElem) ++ p0).length) c2) (by kernel_rfl) (fun _ => by kernel_rfl) ?_
    refine T.nil ?_
    obtain ⟨q1, hX1, hF⟩ := Option.bind_eq_some_iff.1 hF
    refine T.cut (fun a w' => ∃ (z1 : List DElem), q1 = Sum.inl z1 ∧ ∃ (V4 : View), View.le V3 V4 ∧ Fr 85 [(2, .string p2), (3, .int .i64 p3), (5, .pointer (some ⟨b1, 0, none⟩)), (12, .slice A2 z1.length c2)] a ∧ Hp w V4 [row 36 eElem A2 c2 z1, box b1 34 [.int .i64 p1.pfs, .int .i64 p1.obj, .int .i64 p1.off]] w') ?_ ?_
    ·
     refine T.seq ?_
     refine T.region ?_
     refine T.pure (.slice A2 ((([] : List DElem) ++ p0).length) c2) (by kernel_rfl) (fun _ => by kernel_rfl) ?_
     refine T.look (.agg #[.int .i64 p1.pfs, .int .i64 p1.obj, .int .i64 p1.off]) (by kernel_rfl) (fun w' hh => exec_loadN (cs := [.int .i64 p1.pfs, .int .i64 p1.obj, .int .i64 p1.off]) rfl rfl (by kernel_rfl) (by kernel_rfl) (fun j u hj => (hh.box_at (i := 1) (cs := [.int .i64 p1.pfs, .int .i64 p1.obj, .int .i64 p1.off]) (by rfl) 0 j).trans (seg_at (n := 3) (by rfl) hj))) ?_
     obtain ⟨r5, hb5, hX1⟩ := Option.bind_eq_some_iff.1 hX1
     refine T.step (W1.call (vSc eInt) r5 54 #[.slice A2 ((([] : List DElem) ++ p0).length) c2, .agg #[.int .i64 p1.pfs, .int .i64 p1.obj, .int .i64 p1.off]] (by kernel_rfl) (fun _ => by kernel_rfl) (fun w' hh => run_now_l F (([] : List DElem) ++ p0) p1 r5 hb5 w' A2 c2 (hh.row_slOk (i := 0) (by rfl))) ?_)
     intro u V5 hV5 hu
     obtain rfl := sureInt _ _ _ hu
     refine T.pure (.int .i64 r5) (by kernel_rfl) (fun _ => by kernel_rfl) ?_
     refine T.nil ?_
     refine T.seq ?_
     refine T.region ?_
     refine T.pure (.int .i64 r5) (by kernel_rfl) (fun _ => by kernel_rfl) ?_
     refine T.pure (.bool (decide ((0 : Int) ≤ r5))) (by kernel_rfl) (fun _ => by kernel_rfl) ?_
     refine T.nil ?_
     refine T.cond (decide ((0 : Int) ≤ r5)) (by kernel_rfl) (by kernel_rfl) (fun hc4 => ?_) (fun hc4 => ?_)
     ·
      rw [hc4, cond_true] at hX1
      refine T.seq ?_
      refine T.seq ?_
      refine T.region ?_
      refine T.pure (.slice A2 ((([] : List DElem) ++ p0).length) c2) (by kernel_rfl) (fun _ => by kernel_rfl) ?_
      refine T.pure (.int .i64 r5) (by kernel_rfl) (fun _ => by kernel_rfl) ?_
      obtain ⟨e1, hb6, hX1⟩ := Option.bind_eq_some_iff.1 hX1
      obtain ⟨hi1, hi2, hi3⟩ := idx_some hb6
      refine T.look (.pointer (some ((sadr A2).add (r5.toNat * 6)))) (by kernel_rfl) (fun w' hh => exec_indexAddr (e := 36) (s := 6) rfl rfl rfl (by kernel_rfl) (by kernel_rfl) hi1 hi2 ((hh.row_slOk (i := 0) (by rfl)).some_ hi3 (by decide))) ?_
      refine T.pure (.pointer (some (((sadr A2).add (r5.toNat * 6)).add 3))) (by kernel_rfl) (fun _ => by kernel_rfl) ?_
      refine T.look (.int .i64 e1.made) (by kernel_rfl) (fun w' hh => exec_load1 rfl rfl (by kernel_rfl) (SlOk.wcellF (E := eElem) (hh.row_slOk (i := 0) (by rfl)) hi3 3 (fun _ _ _ h => h) rfl)) ?_
      refine T.pure (.int .i64 p3) (by kernel_rfl) (fun _ => by kernel_rfl) ?_
      refine T.pure (.bool (e1.made == p3)) (by kernel_rfl) (fun _ => by kernel_rfl) ?_
      refine T.nil ?_
      refine T.cond (e1.made == p3) (by kernel_rfl) (by kernel_rfl) (fun hc5 => ?_) (fun hc5 => ?_)
      ·
       rw [hc5, cond_true] at hX1
       refine T.seq ?_
       refine T.region ?_
       refine T.pure (.slice A2 ((([] : List DElem) ++ p0).length) c2) (by kernel_rfl) (fun _ => by kernel_rfl) ?_
       refine T.pure (.int .i64 r5) (by kernel_rfl) (fun _ => by kernel_rfl) ?_
       refine T.pure (.string p2) (by kernel_rfl) (fun _ => by kernel_rfl) ?_
       obtain ⟨e2, hb7, hX1⟩ := Option.bind_eq_some_iff.1 hX1
       obtain ⟨hi4, hi5, hi6⟩ := idx_some hb7
       refine T.look (.pointer (some ((sadr A2).add (r5.toNat * 6)))) (by kernel_rfl) (fun w' hh => exec_indexAddr (e := 36) (s := 6) rfl rfl rfl (by kernel_rfl) (by kernel_rfl) hi4 hi5 ((hh.row_slOk (i := 0) (by rfl)).some_ hi6 (by decide))) ?_
       refine T.pure (.pointer (some (((sadr A2).add (r5.toNat * 6)).add 5))) (by kernel_rfl) (fun _ => by kernel_rfl) ?_
       refine T.step (W1.storeRow (E := eElem) 0 (r5.toNat) 5 e2 (DElem.mk e2.key e2.made e2.gone p2) _ (vs := [.string p2]) (by rfl) (by kernel_rfl) rfl rfl rfl rfl rfl (fun _ => by kernel_rfl) (one_of rfl) hi6 (Nat.le_of_ble_eq_true (by kernel_rfl)) (fun _ _ h => by cases h; rfl) ?_)
       refine T.reslot 12 (.slice A2 (((([] : List DElem) ++ p0).set r5.toNat (DElem.mk e2.key e2.made e2.gone p2)).length) c2) rfl (by simp only [List.length_set]) ?_
       refine T.reslot 33 (.slice A2 (((([] : List DElem) ++ p0).set r5.toNat (DElem.mk e2.key e2.made e2.gone p2)).length) c2) rfl (by simp only [List.length_set]) ?_
       refine T.reslot 34 (.slice A2 (((([] : List DElem) ++ p0).set r5.toNat (DElem.mk e2.key e2.made e2.gone p2)).length) c2) rfl (by simp only [List.length_set]) ?_
       refine T.reslot 39 (.slice A2 (((([] : List DElem) ++ p0).set r5.toNat (DElem.mk e2.key e2.made e2.gone p2)).length) c2) rfl (by simp only [List.length_set]) ?_
       refine T.reslot 46 (.slice A2 (((([] : List DElem) ++ p0).set r5.toNat (DElem.mk e2.key e2.made e2.gone p2)).length) c2) rfl (by simp only [List.length_set]) ?_
       refine T.nil ?_
       refine T.seq ?_
       refine T.region ?_
       refine T.pure (.slice A2 (((([] : List DElem) ++ p0).set r5.toNat (DElem.mk e2.key e2.made e2.gone p2)).length) c2) (by kernel_rfl) (fun _ => by kernel_rfl) ?_
       refine T.pure (.slice A2 (((([] : List DElem) ++ p0).set r5.toNat (DElem.mk e2.key e2.made e2.gone p2)).length) c2) (by kernel_rfl) (fun _ => by kernel_rfl) ?_
       refine T.pure (.int .i64 0) (by kernel_rfl) (fun _ => by kernel_rfl) ?_
       refine T.nil ?_
       cases hX1
       try dsimp only at hF
       cases hF
       refine T.ret rfl ?_
       exact T.ret2 rfl (ResIs.tmp rfl) (ResIs.tmp rfl) fun w' hh => ⟨_, rfl, hh.below, (vT2.mk ⟨_, _, rfl, (hh.row_fresh (i := 0) (by rfl) (fun _ h => h))⟩ (show _ from rfl))⟩
      ·
       rw [hc5, cond_false] at hX1
       refine T.skip_code ?_
       refine T.region ?_
       refine T.pure (.slice A2 ((([] : List DElem) ++ p0).length) c2) (by kernel_rfl) (fun _ => by kernel_rfl) ?_
       refine T.pure (.int .i64 r5) (by kernel_rfl) (fun _ => by kernel_rfl) ?_
       refine T.pure (.int .i64 p3) (by kernel_rfl) (fun _ => by kernel_rfl) ?_
       obtain ⟨e3, hb8, hX1⟩ := Option.bind_eq_some_iff.1 hX1
       obtain ⟨hi7, hi8, hi9⟩ := idx_some hb8
       refine T.look (.pointer (some ((sadr A2).add (r5.toNat * 6)))) (by kernel_rfl) (fun w' hh => exec_indexAddr (e := 36) (s := 6) rfl rfl rfl (by kernel_rfl) (by kernel_rfl) hi7 hi8 ((hh.row_slOk (i := 0) (by rfl)).some_ hi9 (by decide))) ?_
       refine T.pure (.pointer (some (((sadr A2).add (r5.toNat * 6)).add 4))) (by kernel_rfl) (fun _ => by kernel_rfl) ?_
       refine T.step (W1.storeRow (E := eElem) 0 (r5.toNat) 4 e3 (DElem.mk e3.key e3.made p3 e3.val) _ (vs := [.int .i64 p3]) (by rfl) (by kernel_rfl) rfl rfl rfl rfl rfl (fun _ => by kernel_rfl) (one_of rfl) hi9 (Nat.le_of_ble_eq_true (by kernel_rfl)) (fun _ _ h => by cases h; rfl) ?_)
       refine T.reslot 12 (.slice A2 (((([] : List DElem) ++ p0).set r5.toNat (DElem.mk e3.key e3.made p3 e3.val)).length) c2) rfl (by simp only [List.length_set]) ?_
       refine T.reslot 33 (.slice A2 (((([] : List DElem) ++ p0).set r5.toNat (DElem.mk e3.key e3.made p3 e3.val)).length) c2) rfl (by simp only [List.length_set]) ?_
       refine T.reslot 34 (.slice A2 (((([] : List DElem) ++ p0).set r5.toNat (DElem.mk e3.key e3.made p3 e3.val)).length) c2) rfl (by simp only [List.length_set]) ?_
       refine T.reslot 39 (.slice A2 (((([] : List DElem) ++ p0).set r5.toNat (DElem.mk e3.key e3.made p3 e3.val)).length) c2) rfl (by simp only [List.length_set]) ?_
       refine T.reslot 52 (.slice A2 (((([] : List DElem) ++ p0).set r5.toNat (DElem.mk e3.key e3.made p3 e3.val)).length) c2) rfl (by simp only [List.length_set]) ?_
       refine T.nil ?_
       cases hX1
       exact fun a w' hf hh => Exists.intro ((([] : List DElem) ++ p0).set r5.toNat (DElem.mk e3.key e3.made p3 e3.val)) (And.intro rfl (Exists.intro V5 (And.intro hV5 (And.intro (((((Fr.nil hf).pick hf 12 rfl).pick hf 5 rfl).pick hf 3 rfl).pick hf 2 rfl) (hh.sub (.cons_cons _ (.cons_cons _ List.Sublist.slnil)))))))
     ·
      rw [hc4, cond_false] at hX1
      refine T.skip_code ?_
      cases hX1
      exact fun a w' hf hh => Exists.intro (([] : List DElem) ++ p0) (And.intro rfl (Exists.intro V5 (And.intro hV5 (And.intro (((((Fr.nil hf).pick hf 12 rfl).pick hf 5 rfl).pick hf 3 rfl).pick hf 2 rfl) (hh.sub (.cons_cons _ (.cons_cons _ List.Sublist.slnil)))))))
    ·
     rintro a w' ⟨z1, rfl, V4, hV4, hf, hh⟩
     try dsimp only at hF
     refine (?_ : T 85 w V4 [row 36 eElem A2 c2 z1, box b1 34 [.int .i64 p1.pfs, .int .i64 p1.obj, .int .i64 p1.off]] [(2, .string p2), (3, .int .i64 p3), (5, .pointer (some ⟨b1, 0, none⟩)), (12, .slice A2 z1.length c2)] _) a w' hf hh
     clear hf hh
     refine T.seq ?_
     refine T.seq ?_
     refine T.region ?_
     refine T.pure (.slice A2 z1.length c2) (by kernel_rfl) (fun _ => by kernel_rfl) ?_
     refine T.pure (.int .i64 (z1.length : Int)) (by kernel_rfl) (fun _ => by kernel_rfl) ?_
     refine T.pure (.bool ((z1.length : Int) == 400)) (by kernel_rfl) (fun _ => by kernel_rfl) ?_
     refine T.nil ?_
     refine T.cond ((z1.length : Int) == 400) (by kernel_rfl) (by kernel_rfl) (fun hc6 => ?_) (fun hc6 => ?_)
     ·
      rw [hc6, cond_true] at hF
      refine T.seq ?_
      refine T.region ?_
      refine T.pure (.slice none 0 0) (by kernel_rfl) (fun _ => by kernel_rfl) ?_
      refine T.pure (.int .i64 8) (by kernel_rfl) (fun _ => by kernel_rfl) ?_
      refine T.nil ?_
      cases hF
      refine T.ret rfl ?_
      exact T.ret2 rfl (ResIs.tmp rfl) (ResIs.tmp rfl) fun w' hh => ⟨_, rfl, hh.below, (vT2.mk ⟨_, _, rfl, (SlOk.nil _ _)⟩ (show _ from rfl))⟩
     ·
      rw [hc6, cond_false] at hF
      refine T.skip_code ?_
      refine T.seq ?_
      refine T.region ?_
      refine T.pure (.slice A2 z1.length c2) (by kernel_rfl) (fun _ => by kernel_rfl) ?_
      refine T.look (.agg #[.int .i64 p1.pfs, .int .i64 p1.obj, .int .i64 p1.off]) (by kernel_rfl) (fun w' hh => exec_loadN (cs := [.int .i64 p1.pfs, .int .i64 p1.obj, .int .i64 p1.off]) rfl rfl (by kernel_rfl) (by kernel_rfl) (fun j u hj => (hh.box_at (i := 1) (cs := [.int .i64 p1.pfs, .int .i64 p1.obj, .int .i64 p1.off]) (by rfl) 0 j).trans (seg_at (n := 3) (by rfl) hj))) ?_
      refine T.pure (.int .i64 p3) (by kernel_rfl) (fun _ => by kernel_rfl) ?_
      refine T.pure (.agg #[.int .i64 p1.pfs, .int .i64 p1.obj, .int .i64 p1.off, .int .i64 p3]) (by kernel_rfl) (fun _ => by kernel_rfl) ?_
      obtain ⟨r6, hb9, hF⟩ := Option.bind_eq_some_iff.1 hF
      refine T.step (W1.call (vSc eInt) r6 55 #[.slice A2 z1.length c2, .agg #[.int .i64 p1.pfs, .int .i64 p1.obj, .int .i64 p1.off, .int .i64 p3]] (by kernel_rfl) (fun _ => by kernel_rfl) (fun w' hh => run_place_l F z1 (DSpot.mk p1 p3) r6 hb9 w' A2 c2 (hh.row_slOk (i := 0) (by rfl))) ?_)
      intro u V6 hV6 hu
      obtain rfl := sureInt _ _ _ hu
      refine T.pure (.int .i64 r6) (by kernel_rfl) (fun _ => by kernel_rfl) ?_
      refine T.nil ?_
      refine T.seq ?_
      refine T.region ?_
      refine T.pure (.slice A2 z1.length c2) (by kernel_rfl) (fun _ => by kernel_rfl) ?_
      refine T.pure (.agg #[.int .i64 0, .int .i64 0, .int .i64 0, .int .i64 0, .int .i64 0, .string (ByteArray.mk #[])]) (by kernel_rfl) (fun _ => by kernel_rfl) ?_
      refine T.step (W1.new 36 [.int .i64 0, .int .i64 0, .int .i64 0, .int .i64 0, .int .i64 0, .string (ByteArray.mk #[])] (fun b => .slice (some ⟨b, 0, none⟩) 1 1) (by kernel_rfl) (fun _ => by kernel_rfl) (fun b2 => ?_))
      obtain ⟨y2, hb10, hF⟩ := Option.bind_eq_some_iff.1 hF
      obtain ⟨hb10_r, hb10_m, rfl⟩ := grow_some hb10
      obtain ⟨ti, hti, hz1, hz2, hz3⟩ := info_parts (P := Tryd.prog) (e := 36) (z := .agg #[.int .i64 0, .int .i64 0, .int .i64 0, .int .i64 0, .int .i64 0, .string (ByteArray.mk #[])]) (size := 6) (bytes := 56) (by kernel_rfl)
      refine T.step (W1.append (E := eElem) (l := z1) (m := [(DElem.mk (DKey.mk 0 0 0) 0 0 (ByteArray.mk #[]))]) 1 _ _ 56 ti _ (by rfl) (by kernel_rfl) rfl (by kernel_rfl) hti hz1 hz2 hz3 rfl (by decide) rfl rfl (fun w' hh => (SlOk.srcF (slok_lit (E := eElem) (f := DElem.cells) [(DElem.mk (DKey.mk 0 0 0) 0 0 (ByteArray.mk #[]))] (fun _ _ => rfl) (Nat.le_of_ble_eq_true (by rfl)) (fun j => hh.cellBox (i := 0) (by rfl) j)) (fun _ _ _ _ h => h))) hb10_r hb10_m (fun A3 c3 => ?_))
      refine T.pure (.slice A3 ((z1 ++ [(DElem.mk (DKey.mk 0 0 0) 0 0 (ByteArray.mk #[]))]).length) c3) (by kernel_rfl) (fun _ => by kernel_rfl) ?_
      refine T.nil ?_
      refine T.seq ?_
      obtain ⟨s1, hb11, hF⟩ := Option.bind_eq_some_iff.1 hF
      obtain ⟨s2, hb12, hF⟩ := Option.bind_eq_some_iff.1 hF
      refine T.mid (fun a w' => Fr 85 [(2, .string p2), (3, .int .i64 p3), (5, .pointer (some ⟨b1, 0, none⟩)), (12, .slice A3 ((over (z1 ++ [(DElem.mk (DKey.mk 0 0 0) 0 0 (ByteArray.mk #[]))]) ((IntKind.i64.wrap (r6 + 1)).toNat) (s2.take s1.length)).length) c3), (14, .int .i64 r6)] a ∧ Hp w V6 [row 36 eElem A3 c3 (over (z1 ++ [(DElem.mk (DKey.mk 0 0 0) 0 0 (ByteArray.mk #[]))]) ((IntKind.i64.wrap (r6 + 1)).toNat) (s2.take s1.length)), box b1 34 [.int .i64 p1.pfs, .int .i64 p1.obj, .int .i64 p1.off]] w') ?_ ?_
      ·
       refine T.held [box b2 36 [.int .i64 0, .int .i64 0, .int .i64 0, .int .i64 0, .int .i64 0, .string (ByteArray.mk #[])], box b1 34 [.int .i64 p1.pfs, .int .i64 p1.obj, .int .i64 p1.off]] (by kernel_rfl) ?_
       refine TA.take 0 (.slice A3 ((z1 ++ [(DElem.mk (DKey.mk 0 0 0) 0 0 (ByteArray.mk #[]))]).length) c3) rfl (by kernel_rfl) (by kernel_rfl) (by kernel_rfl) (fun _ _ _ h => h) (Hp.old (View.le_refl _) (View.le_trans (View.le_trans (View.le_trans (View.le_trans hV1 hV2) hV3) hV4) hV6) (.cons_cons _ (.cons _ (.cons_cons _ List.Sublist.slnil))) (OldAll.box (OldAll.box OldAll.nil))) (by kernel_rfl) (fun _ _ => by kernel_rfl) ?_
       refine TA.take 1 (.int .i64 r6) rfl (by kernel_rfl) (by kernel_rfl) (by kernel_rfl) (fun _ _ _ h => h) (Hp.old (View.le_refl _) (View.le_trans (View.le_trans (View.le_trans (View.le_trans hV1 hV2) hV3) hV4) hV6) (.cons_cons _ (.cons _ (.cons_cons _ List.Sublist.slnil))) (OldAll.box (OldAll.box OldAll.nil))) (by kernel_rfl) (fun _ _ => by kernel_rfl) ?_
       refine TA.take 2 (.int .i64 (IntKind.i64.wrap (r6 + 1))) rfl (by kernel_rfl) (by kernel_rfl) (by kernel_rfl) (fun _ _ _ h => h) (Hp.old (View.le_refl _) (View.le_trans (View.le_trans (View.le_trans (View.le_trans hV1 hV2) hV3) hV4) hV6) (.cons_cons _ (.cons _ (.cons_cons _ List.Sublist.slnil))) (OldAll.box (OldAll.box OldAll.nil))) (by kernel_rfl) (fun _ _ => by kernel_rfl) ?_
       refine TA.take 4 (.slice A3 ((z1 ++ [(DElem.mk (DKey.mk 0 0 0) 0 0 (ByteArray.mk #[]))]).length) c3) rfl (by kernel_rfl) (by kernel_rfl) (by kernel_rfl) (fun _ _ _ h => h) (Hp.old (View.le_refl _) (View.le_trans (View.le_trans (View.le_trans (View.le_trans hV1 hV2) hV3) hV4) hV6) (.cons_cons _ (.cons _ (.cons_cons _ List.Sublist.slnil))) (OldAll.box (OldAll.box OldAll.nil))) (by kernel_rfl) (fun _ _ => by kernel_rfl) ?_
       refine TA.take 5 (.int .i64 r6) rfl (by kernel_rfl) (by kernel_rfl) (by kernel_rfl) (fun _ _ _ h => h) (Hp.old (View.le_refl _) (View.le_trans (View.le_trans (View.le_trans (View.le_trans hV1 hV2) hV3) hV4) hV6) (.cons_cons _ (.cons _ (.cons_cons _ List.Sublist.slnil))) (OldAll.box (OldAll.box OldAll.nil))) (by kernel_rfl) (fun _ _ => by kernel_rfl) ?_
       refine TA.all [3, 6] (by kernel_rfl) rfl ⟨?_, ?_, trivial⟩
       ·
        refine TA.br rfl (W1.look (.slice (cutA A3 c3 (IntKind.i64.wrap (r6 + 1)).toNat 6) s1.length (c3 - (IntKind.i64.wrap (r6 + 1)).toNat)) (by kernel_rfl) (fun w' hh => exec_slice_list (e := 36) (s := 6) (lx := (some _)) (hx := none) (k := .i64) (k' := .i64) rfl rfl (by kernel_rfl) (by kernel_rfl) ((hh.row_slOk (i := 1) (by rfl))).1 rfl rfl hb11) ?_)
        refine TA.on (Hp.old (View.le_refl _) (View.le_trans (View.le_trans (View.le_trans (View.le_trans hV1 hV2) hV3) hV4) hV6) (.cons_cons _ (.cons _ (.cons_cons _ List.Sublist.slnil))) (OldAll.box (OldAll.box OldAll.nil))) ?_
        refine TA.all [6] (by kernel_rfl) rfl ⟨?_, trivial⟩
        refine TA.br rfl (W1.look (.slice (cutA A3 c3 r6.toNat 6) s2.length (c3 - r6.toNat)) (by kernel_rfl) (fun w' hh => exec_slice_list (e := 36) (s := 6) (lx := (some _)) (hx := none) (k := .i64) (k' := .i64) rfl rfl (by kernel_rfl) (by kernel_rfl) ((hh.row_slOk (i := 1) (by rfl))).1 rfl rfl hb12) ?_)
        refine TA.on (Hp.old (View.le_refl _) (View.le_trans (View.le_trans (View.le_trans (View.le_trans hV1 hV2) hV3) hV4) hV6) (.cons_cons _ (.cons _ (.cons_cons _ List.Sublist.slnil))) (OldAll.box (OldAll.box OldAll.nil))) ?_
        refine TA.all [7] (by kernel_rfl) rfl ⟨?_, trivial⟩
        refine TA.br rfl (W1.copy (E := eElem) (l := (z1 ++ [(DElem.mk (DKey.mk 0 0 0) 0 0 (ByteArray.mk #[]))])) (m := s2) 1 ((IntKind.i64.wrap (r6 + 1)).toNat) s1.length _ _ (by rfl) (by kernel_rfl) rfl (by kernel_rfl) (fun _ => by kernel_rfl) (by decide) rfl rfl (lslice_fit hb11) (fun w' hh => (SlOk.srcF (SlOk.cut (hh.row_slOk (i := 1) (by rfl)) hb12) (fun _ _ _ _ h => h))) ?_)
        have hl1 : (over (z1 ++ [(DElem.mk (DKey.mk 0 0 0) 0 0 (ByteArray.mk #[]))]) ((IntKind.i64.wrap (r6 + 1)).toNat) (s2.take s1.length)).length = (z1 ++ [(DElem.mk (DKey.mk 0 0 0) 0 0 (ByteArray.mk #[]))]).length := (by exact over_length _ _ _ (by rw [List.length_take]; have := (lslice_fit hb11); omega))
        refine TA.on (Hp.old (View.le_refl _) (View.le_trans (View.le_trans (View.le_trans (View.le_trans hV1 hV2) hV3) hV4) hV6) (.cons_cons _ (.cons _ (.cons_cons _ List.Sublist.slnil))) (OldAll.box (OldAll.box OldAll.nil))) ?_
        refine T.reslot 12 (.slice A3 ((over (z1 ++ [(DElem.mk (DKey.mk 0 0 0) 0 0 (ByteArray.mk #[]))]) ((IntKind.i64.wrap (r6 + 1)).toNat) (s2.take s1.length)).length) c3) rfl (by simp only [hl1]) ?_
        refine T.reslot 68 (.slice A3 ((over (z1 ++ [(DElem.mk (DKey.mk 0 0 0) 0 0 (ByteArray.mk #[]))]) ((IntKind.i64.wrap (r6 + 1)).toNat) (s2.take s1.length)).length) c3) rfl (by simp only [hl1]) ?_
        refine T.reslot 69 (.slice A3 ((over (z1 ++ [(DElem.mk (DKey.mk 0 0 0) 0 0 (ByteArray.mk #[]))]) ((IntKind.i64.wrap (r6 + 1)).toNat) (s2.take s1.length)).length) c3) rfl (by simp only [hl1]) ?_
        refine T.reslot 73 (.slice A3 ((over (z1 ++ [(DElem.mk (DKey.mk 0 0 0) 0 0 (ByteArray.mk #[]))]) ((IntKind.i64.wrap (r6 + 1)).toNat) (s2.take s1.length)).length) c3) rfl (by simp only [hl1]) ?_
        refine TA.done (by kernel_rfl) ?_
        exact fun a w' hf hh => And.intro ((((((Fr.nil hf).pick hf 14 rfl).pick hf 12 rfl).pick hf 5 rfl).pick hf 3 rfl).pick hf 2 rfl) (hh.sub (.cons _ (.cons_cons _ (.cons_cons _ List.Sublist.slnil))))
       ·
        refine TA.br rfl (W1.look (.slice (cutA A3 c3 r6.toNat 6) s2.length (c3 - r6.toNat)) (by kernel_rfl) (fun w' hh => exec_slice_list (e := 36) (s := 6) (lx := (some _)) (hx := none) (k := .i64) (k' := .i64) rfl rfl (by kernel_rfl) (by kernel_rfl) ((hh.row_slOk (i := 1) (by rfl))).1 rfl rfl hb12) ?_)
        refine TA.on (Hp.old (View.le_refl _) (View.le_trans (View.le_trans (View.le_trans (View.le_trans hV1 hV2) hV3) hV4) hV6) (.cons_cons _ (.cons _ (.cons_cons _ List.Sublist.slnil))) (OldAll.box (OldAll.box OldAll.nil))) ?_
        refine TA.all [3] (by kernel_rfl) rfl ⟨?_, trivial⟩
        refine TA.br rfl (W1.look (.slice (cutA A3 c3 (IntKind.i64.wrap (r6 + 1)).toNat 6) s1.length (c3 - (IntKind.i64.wrap (r6 + 1)).toNat)) (by kernel_rfl) (fun w' hh => exec_slice_list (e := 36) (s := 6) (lx := (some _)) (hx := none) (k := .i64) (k' := .i64) rfl rfl (by kernel_rfl) (by kernel_rfl) ((hh.row_slOk (i := 1) (by rfl))).1 rfl rfl hb11) ?_)
        refine TA.on (Hp.old (View.le_refl _) (View.le_trans (View.le_trans (View.le_trans (View.le_trans hV1 hV2) hV3) hV4) hV6) (.cons_cons _ (.cons _ (.cons_cons _ List.Sublist.slnil))) (OldAll.box (OldAll.box OldAll.nil))) ?_
        refine TA.all [7] (by kernel_rfl) rfl ⟨?_, trivial⟩
        refine TA.br rfl (W1.copy (E := eElem) (l := (z1 ++ [(DElem.mk (DKey.mk 0 0 0) 0 0 (ByteArray.mk #[]))])) (m := s2) 1 ((IntKind.i64.wrap (r6 + 1)).toNat) s1.length _ _ (by rfl) (by kernel_rfl) rfl (by kernel_rfl) (fun _ => by kernel_rfl) (by decide) rfl rfl (lslice_fit hb11) (fun w' hh => (SlOk.srcF (SlOk.cut (hh.row_slOk (i := 1) (by rfl)) hb12) (fun _ _ _ _ h => h))) ?_)
        have hl1 : (over (z1 ++ [(DElem.mk (DKey.mk 0 0 0) 0 0 (ByteArray.mk #[]))]) ((IntKind.i64.wrap (r6 + 1)).toNat) (s2.take s1.length)).length = (z1 ++ [(DElem.mk (DKey.mk 0 0 0) 0 0 (ByteArray.mk #[]))]).length := (by exact over_length _ _ _ (by rw [List.length_take]; have := (lslice_fit hb11); omega))
        refine TA.on (Hp.old (View.le_refl _) (View.le_trans (View.le_trans (View.le_trans (View.le_trans hV1 hV2) hV3) hV4) hV6) (.cons_cons _ (.cons _ (.cons_cons _ List.Sublist.slnil))) (OldAll.box (OldAll.box OldAll.nil))) ?_
        refine T.reslot 12 (.slice A3 ((over (z1 ++ [(DElem.mk (DKey.mk 0 0 0) 0 0 (ByteArray.mk #[]))]) ((IntKind.i64.wrap (r6 + 1)).toNat) (s2.take s1.length)).length) c3) rfl (by simp only [hl1]) ?_
        refine T.reslot 68 (.slice A3 ((over (z1 ++ [(DElem.mk (DKey.mk 0 0 0) 0 0 (ByteArray.mk #[]))]) ((IntKind.i64.wrap (r6 + 1)).toNat) (s2.take s1.length)).length) c3) rfl (by simp only [hl1]) ?_
        refine T.reslot 69 (.slice A3 ((over (z1 ++ [(DElem.mk (DKey.mk 0 0 0) 0 0 (ByteArray.mk #[]))]) ((IntKind.i64.wrap (r6 + 1)).toNat) (s2.take s1.length)).length) c3) rfl (by simp only [hl1]) ?_
        refine T.reslot 73 (.slice A3 ((over (z1 ++ [(DElem.mk (DKey.mk 0 0 0) 0 0 (ByteArray.mk #[]))]) ((IntKind.i64.wrap (r6 + 1)).toNat) (s2.take s1.length)).length) c3) rfl (by simp only [hl1]) ?_
        refine TA.done (by kernel_rfl) ?_
        exact fun a w' hf hh => And.intro ((((((Fr.nil hf).pick hf 14 rfl).pick hf 12 rfl).pick hf 5 rfl).pick hf 3 rfl).pick hf 2 rfl) (hh.sub (.cons _ (.cons_cons _ (.cons_cons _ List.Sublist.slnil))))
      ·
       rintro a w' ⟨hf, hh⟩
       refine (?_ : T 85 w V6 [row 36 eElem A3 c3 (over (z1 ++ [(DElem.mk (DKey.mk 0 0 0) 0 0 (ByteArray.mk #[]))]) ((IntKind.i64.wrap (r6 + 1)).toNat) (s2.take s1.length)), box b1 34 [.int .i64 p1.pfs, .int .i64 p1.obj, .int .i64 p1.off]] [(2, .string p2), (3, .int .i64 p3), (5, .pointer (some ⟨b1, 0, none⟩)), (12, .slice A3 ((over (z1 ++ [(DElem.mk (DKey.mk 0 0 0) 0 0 (ByteArray.mk #[]))]) ((IntKind.i64.wrap (r6 + 1)).toNat) (s2.take s1.length)).length) c3), (14, .int .i64 r6)] _) a w' hf hh
       clear hf hh
       refine T.seq ?_
       refine T.region ?_
       refine T.pure (.slice A3 ((over (z1 ++ [(DElem.mk (DKey.mk 0 0 0) 0 0 (ByteArray.mk #[]))]) ((IntKind.i64.wrap (r6 + 1)).toNat) (s2.take s1.length)).length) c3) (by kernel_rfl) (fun _ => by kernel_rfl) ?_
       refine T.pure (.int .i64 r6) (by kernel_rfl) (fun _ => by kernel_rfl) ?_
       refine T.look (.agg #[.int .i64 p1.pfs, .int .i64 p1.obj, .int .i64 p1.off]) (by kernel_rfl) (fun w' hh => exec_loadN (cs := [.int .i64 p1.pfs, .int .i64 p1.obj, .int .i64 p1.off]) rfl rfl (by kernel_rfl) (by kernel_rfl) (fun j u hj => (hh.box_at (i := 1) (cs := [.int .i64 p1.pfs, .int .i64 p1.obj, .int .i64 p1.off]) (by rfl) 0 j).trans (seg_at (n := 3) (by rfl) hj))) ?_
       refine T.pure (.int .i64 p3) (by kernel_rfl) (fun _ => by kernel_rfl) ?_
       refine T.pure (.string p2) (by kernel_rfl) (fun _ => by kernel_rfl) ?_
       refine T.pure (.agg #[.int .i64 p1.pfs, .int .i64 p1.obj, .int .i64 p1.off, .int .i64 p3, .int .i64 0, .string p2]) (by kernel_rfl) (fun _ => by kernel_rfl) ?_
       obtain ⟨e4, hb13, hF⟩ := Option.bind_eq_some_iff.1 hF
       obtain ⟨hi10, hi11, hi12⟩ := idx_some hb13
       refine T.look (.pointer (some ((sadr A3).add (r6.toNat * 6)))) (by kernel_rfl) (fun w' hh => exec_indexAddr (e := 36) (s := 6) rfl rfl rfl (by kernel_rfl) (by kernel_rfl) hi10 hi11 ((hh.row_slOk (i := 0) (by rfl)).some_ hi12 (by decide))) ?_
       refine T.step (W1.storeRow (E := eElem) 0 (r6.toNat) 0 e4 (DElem.mk p1 p3 0 p2) _ (vs := [.int .i64 p1.pfs, .int .i64 p1.obj, .int .i64 p1.off, .int .i64 p3, .int .i64 0, .string p2]) (by rfl) (by kernel_rfl) rfl rfl (addr_add0 _).symm rfl rfl (fun _ => by kernel_rfl) (one_of rfl) hi12 (Nat.le_of_ble_eq_true (by kernel_rfl)) (fun _ _ h => by cases h; rfl) ?_)
       refine T.reslot 12 (.slice A3 (((over (z1 ++ [(DElem.mk (DKey.mk 0 0 0) 0 0 (ByteArray.mk #[]))]) ((IntKind.i64.wrap (r6 + 1)).toNat) (s2.take s1.length)).set r6.toNat (DElem.mk p1 p3 0 p2)).length) c3) rfl (by simp only [List.length_set]) ?_
       refine T.reslot 77 (.slice A3 (((over (z1 ++ [(DElem.mk (DKey.mk 0 0 0) 0 0 (ByteArray.mk #[]))]) ((IntKind.i64.wrap (r6 + 1)).toNat) (s2.take s1.length)).set r6.toNat (DElem.mk p1 p3 0 p2)).length) c3) rfl (by simp only [List.length_set]) ?_
       refine T.nil ?_
       refine T.seq ?_
       refine T.region ?_
       refine T.pure (.slice A3 (((over (z1 ++ [(DElem.mk (DKey.mk 0 0 0) 0 0 (ByteArray.mk #[]))]) ((IntKind.i64.wrap (r6 + 1)).toNat) (s2.take s1.length)).set r6.toNat (DElem.mk p1 p3 0 p2)).length) c3) (by kernel_rfl) (fun _ => by kernel_rfl) ?_
       refine T.pure (.slice A3 (((over (z1 ++ [(DElem.mk (DKey.mk 0 0 0) 0 0 (ByteArray.mk #[]))]) ((IntKind.i64.wrap (r6 + 1)).toNat) (s2.take s1.length)).set r6.toNat (DElem.mk p1 p3 0 p2)).length) c3) (by kernel_rfl) (fun _ => by kernel_rfl) ?_
       refine T.pure (.int .i64 0) (by kernel_rfl) (fun _ => by kernel_rfl) ?_
       refine T.nil ?_
       cases hF
       refine T.ret rfl ?_
       exact T.ret2 rfl (ResIs.tmp rfl) (ResIs.tmp rfl) fun w' hh => ⟨_, rfl, hh.below, (vT2.mk ⟨_, _, rfl, (hh.row_fresh (i := 0) (by rfl) (fun _ h => h))⟩ (show _ from rfl))⟩

set_option maxRecDepth 100000 in
set_option maxHeartbeats 4000000 in
theorem run_Cut_l (F : Nat) (p0 : (List DElem)) (p1 : DKey) (p2 : Int) (r : ((List DElem)) × Int) (hF : run_Cut F p0 p1 p2 = some r) (w : World) (A1 : Option Addr) (c1 : Nat) (hs1 : SlOk (vw w) eElem A1 c1 p0) :
    Calls Tryd.prog 31 #[.slice A1 p0.length c1, .agg #[.int .i64 p1.pfs, .int .i64 p1.obj, .int .i64 p1.off], .int .i64 p2] w (Post (vT2 (vSc (eList eElem)) (vSc eInt)) r w) := by
 unfold run_Cut at hF
 refine T.start (l := [.slice A1 p0.length c1, .agg #[.int .i64 p1.pfs, .int .i64 p1.obj, .int .i64 p1.off], .int .i64 p2]) Tryd.func31 rfl rfl rfl ?_
 refine T.seq ?_
 refine T.region ?_
 refine T.step (W1.new 34 [.int .i64 p1.pfs, .int .i64 p1.obj, .int .i64 p1.off] (fun b => .pointer (some ⟨b, 0, none⟩)) (by kernel_rfl) (fun _ => by kernel_rfl) (fun b1 => ?_))
 refine T.pure (.slice none 0 0) (by kernel_rfl) (fun _ => by kernel_rfl) ?_
 refine T.pure (.int .i64 0) (by kernel_rfl) (fun _ => by kernel_rfl) ?_
 refine T.nil ?_
 refine T.seq ?_
 refine T.seq ?_
 refine T.region ?_
 refine T.pure (.slice A1 p0.length c1) (by kernel_rfl) (fun _ => by kernel_rfl) ?_
 obtain ⟨r1, hb1, hF⟩ := Option.bind_eq_some_iff.1 hF
 refine T.step (W1.call (vSc eInt) r1 15 #[.slice A1 p0.length c1] (by kernel_rfl) (fun _ => by kernel_rfl) (fun w' hh => run_Check_l F p0 r1 hb1 w' A1 c1 (SlOk.mono hs1 hh.view)) ?_)
 intro u V1 hV1 hu
 obtain rfl := sureInt _ _ _ hu
 refine T.pure (.int .i64 r1) (by kernel_rfl) (fun _ => by kernel_rfl) ?_
 refine T.nil ?_
 refine T.seq ?_
 refine T.region ?_
 refine T.pure (.int .i64 r1) (by kernel_rfl) (fun _ => by kernel_rfl) ?_
 refine T.pure (.bool (r1 != 0)) (by kernel_rfl) (fun _ => by kernel_rfl) ?_
 refine T.nil ?_
 refine T.cond (r1 != 0) (by kernel_rfl) (by kernel_rfl) (fun hc1 => ?_) (fun hc1 => ?_)
 ·
  rw [hc1, cond_true] at hF
  refine T.seq ?_
  refine T.region ?_
  refine T.pure (.int .i64 r1) (by kernel_rfl) (fun _ => by kernel_rfl) ?_
  refine T.pure (.slice none 0 0) (by kernel_rfl) (fun _ => by kernel_rfl) ?_
  refine T.pure (.int .i64 r1) (by kernel_rfl) (fun _ => by kernel_rfl) ?_
  refine T.nil ?_
  cases hF
  refine T.ret rfl ?_
  exact T.ret2 rfl (ResIs.tmp rfl) (ResIs.tmp rfl) fun w' hh => ⟨_, rfl, hh.below, (vT2.mk ⟨_, _, rfl, (SlOk.nil _ _)⟩ (show _ from rfl))⟩
 ·
  rw [hc1, cond_false] at hF
  refine T.skip_code ?_
  refine T.seq ?_
  refine T.seq ?_
  refine T.region ?_
  refine T.look (.agg #[.int .i64 p1.pfs, .int .i64 p1.obj, .int .i64 p1.off]) (by kernel_rfl) (fun w' hh => exec_loadN (cs := [.int .i64 p1.pfs, .int .i64 p1.obj, .int .i64 p1.off]) rfl rfl (by kernel_rfl) (by kernel_rfl) (fun j u hj => (hh.box_at (i := 0) (cs := [.int .i64 p1.pfs, .int .i64 p1.obj, .int .i64 p1.off]) (by rfl) 0 j).trans (seg_at (n := 3) (by rfl) hj))) ?_
  obtain ⟨r2, hb2, hF⟩ := Option.bind_eq_some_iff.1 hF
  refine T.step (W1.call (vSc eInt) r2 51 #[.agg #[.int .i64 p1.pfs, .int .i64 p1.obj, .int .i64 p1.off]] (by kernel_rfl) (fun _ => by kernel_rfl) (fun w' hh => key_Check_l p1 r2 hb2 w' ) ?_)
  intro u V2 hV2 hu
  obtain rfl := sureInt _ _ _ hu
  refine T.pure (.int .i64 r2) (by kernel_rfl) (fun _ => by kernel_rfl) ?_
  refine T.nil ?_
  refine T.seq ?_
  refine T.region ?_
  refine T.pure (.int .i64 r2) (by kernel_rfl) (fun _ => by kernel_rfl) ?_
  refine T.pure (.bool (r2 != 0)) (by kernel_rfl) (fun _ => by kernel_rfl) ?_
  refine T.nil ?_
  refine T.cond (r2 != 0) (by kernel_rfl) (by kernel_rfl) (fun hc2 => ?_) (fun hc2 => ?_)
  ·
   rw [hc2, cond_true] at hF
   refine T.seq ?_
   refine T.region ?_
   refine T.pure (.int .i64 r2) (by kernel_rfl) (fun _ => by kernel_rfl) ?_
   refine T.pure (.slice none 0 0) (by kernel_rfl) (fun _ => by kernel_rfl) ?_
   refine T.pure (.int .i64 r2) (by kernel_rfl) (fun _ => by kernel_rfl) ?_
   refine T.nil ?_
   cases hF
   refine T.ret rfl ?_
   exact T.ret2 rfl (ResIs.tmp rfl) (ResIs.tmp rfl) fun w' hh => ⟨_, rfl, hh.below, (vT2.mk ⟨_, _, rfl, (SlOk.nil _ _)⟩ (show _ from rfl))⟩
  ·
   rw [hc2, cond_false] at hF
   refine T.skip_code ?_
   refine T.seq ?_
   obtain ⟨z1, hX1, hF⟩ := Option.bind_eq_some_iff.1 hF
   refine T.cut (fun a w' => ∃ (V3 : View), View.le V2 V3 ∧ Fr 62 [(0, .slice A1 p0.length c1), (2, .int .i64 p2), (4, .pointer (some ⟨b1, 0, none⟩)), (33, .bool z1)] a ∧ Hp w V3 [box b1 34 [.int .i64 p1.pfs, .int .i64 p1.obj, .int .i64 p1.off]] w') ?_ ?_
   ·
    refine T.region ?_
    refine T.pure (.int .i64 p2) (by kernel_rfl) (fun _ => by kernel_rfl) ?_
    refine T.pure (.bool (decide (p2 < 1))) (by kernel_rfl) (fun _ => by kernel_rfl) ?_
    refine T.pure (.bool (decide (p2 < 1))) (by kernel_rfl) (fun _ => by kernel_rfl) ?_
    cases hg1 : decide (p2 < 1)
    ·
     skip
     rw [hg1, cond_false] at hX1
     refine T.pure (.int .i64 p2) (by kernel_rfl) (fun _ => by kernel_rfl) ?_
     refine T.pure (.bool (decide ((2147483647 : Int) < p2))) (by kernel_rfl) (fun _ => by kernel_rfl) ?_
     refine T.pure (.bool (decide ((2147483647 : Int) < p2))) (by kernel_rfl) (fun _ => by kernel_rfl) ?_
     refine T.pure (.bool (decide ((2147483647 : Int) < p2))) (by kernel_rfl) (fun _ => by kernel_rfl) ?_
     cases hg2 : decide ((2147483647 : Int) < p2)
     ·
      skip
      rw [hg2, cond_false] at hX1
      refine T.pure (.int .i64 p2) (by kernel_rfl) (fun _ => by kernel_rfl) ?_
      refine T.pure (.slice A1 p0.length c1) (by kernel_rfl) (fun _ => by kernel_rfl) ?_
      obtain ⟨r3, hb3, hX1⟩ := Option.bind_eq_some_iff.1 hX1
      refine T.step (W1.call (vSc eInt) r3 53 #[.slice A1 p0.length c1] (by kernel_rfl) (fun _ => by kernel_rfl) (fun w' hh => run_last_l F p0 r3 hb3 w' A1 c1 (SlOk.mono (SlOk.mono hs1 (View.le_trans hV1 hV2)) hh.view)) ?_)
      intro u V4 hV4 hu
      obtain rfl := sureInt _ _ _ hu
      refine T.pure (.bool (decide (p2 < r3))) (by kernel_rfl) (fun _ => by kernel_rfl) ?_
      refine T.pure (.bool (decide (p2 < r3))) (by kernel_rfl) (fun _ => by kernel_rfl) ?_
      refine T.nil ?_
      cases hX1
      exact fun a w' hf hh => Exists.intro V4 (And.intro hV4 (And.intro (((((Fr.nil hf).pick hf 33 rfl).pick hf 4 rfl).pick hf 2 rfl).pick hf 0 rfl) (hh.sub (.cons_cons _ List.Sublist.slnil))))
     ·
      skip
      rw [hg2, cond_true] at hX1
      refine T.pass (by kernel_rfl) (by kernel_rfl) ?_
      refine T.pass (by kernel_rfl) (by kernel_rfl) ?_
      refine T.pass (by kernel_rfl) (by kernel_rfl) ?_
      refine T.pass (by kernel_rfl) (by kernel_rfl) ?_
      refine T.pure (.bool true) (by kernel_rfl) (fun _ => by kernel_rfl) ?_
      refine T.nil ?_
      cases hX1
      exact fun a w' hf hh => Exists.intro V2 (And.intro (View.le_refl _) (And.intro (((((Fr.nil hf).pick hf 33 rfl).pick hf 4 rfl).pick hf 2 rfl).pick hf 0 rfl) (hh.sub (.cons_cons _ List.Sublist.slnil))))
    ·
     skip
     rw [hg1, cond_true] at hX1
     refine T.pass (by kernel_rfl) (by kernel_rfl) ?_
     refine T.pass (by kernel_rfl) (by kernel_rfl) ?_
     refine T.pure (.bool true) (by kernel_rfl) (fun _ => by kernel_rfl) ?_
     refine T.pure (.bool true) (by kernel_rfl) (fun _ => by kernel_rfl) ?_
     refine T.pass (by kernel_rfl) (by kernel_rfl) ?_
     refine T.pass (by kernel_rfl) (by kernel_rfl) ?_
     refine T.pass (by kernel_rfl) (by kernel_rfl) ?_
     refine T.pass (by kernel_rfl) (by kernel_rfl) ?_
     refine T.pure (.bool true) (by kernel_rfl) (fun _ => by kernel_rfl) ?_
     refine T.nil ?_
     cases hX1
     exact fun a w' hf hh => Exists.intro V2 (And.intro (View.le_refl _) (And.intro (((((Fr.nil hf).pick hf 33 rfl).pick hf 4 rfl).pick hf 2 rfl).pick hf 0 rfl) (hh.sub (.cons_cons _ List.Sublist.slnil))))
   ·
    rintro a w' ⟨V3, hV3, hf, hh⟩
    refine (?_ : T 62 w V3 [box b1 34 [.int .i64 p1.pfs, .int .i64 p1.obj, .int .i64 p1.off]] [(0, .slice A1 p0.length c1), (2, .int .i64 p2), (4, .pointer (some ⟨b1, 0, none⟩)), (33, .bool z1)] _) a w' hf hh
    clear hf hh
    refine T.cond z1 (by kernel_rfl) (by kernel_rfl) (fun hc3 => ?_) (fun hc3 => ?_)
    ·
     rw [hc3, cond_true] at hF
     refine T.seq ?_
     refine T.region ?_
     refine T.pure (.slice none 0 0) (by kernel_rfl) (fun _ => by kernel_rfl) ?_
     refine T.pure (.int .i64 9) (by kernel_rfl) (fun _ => by kernel_rfl) ?_
     refine T.nil ?_
     cases hF
     refine T.ret rfl ?_
     exact T.ret2 rfl (ResIs.tmp rfl) (ResIs.tmp rfl) fun w' hh => ⟨_, rfl, hh.below, (vT2.mk ⟨_, _, rfl, (SlOk.nil _ _)⟩ (show _ from rfl))⟩
    ·
     rw [hc3, cond_false] at hF
     refine T.skip_code ?_
     refine T.seq ?_
     refine T.region ?_
     refine T.pure (.slice A1 p0.length c1) (by kernel_rfl) (fun _ => by kernel_rfl) ?_
     refine T.look (.agg #[.int .i64 p1.pfs, .int .i64 p1.obj, .int .i64 p1.off]) (by kernel_rfl) (fun w' hh => exec_loadN (cs := [.int .i64 p1.pfs, .int .i64 p1.obj, .int .i64 p1.off]) rfl rfl (by kernel_rfl) (by kernel_rfl) (fun j u hj => (hh.box_at (i := 0) (cs := [.int .i64 p1.pfs, .int .i64 p1.obj, .int .i64 p1.off]) (by rfl) 0 j).trans (seg_at (n := 3) (by rfl) hj))) ?_
     obtain ⟨r4, hb4, hF⟩ := Option.bind_eq_some_iff.1 hF
     refine T.step (W1.call (vSc eInt) r4 54 #[.slice A1 p0.length c1, .agg #[.int .i64 p1.pfs, .int .i64 p1.obj, .int .i64 p1.off]] (by kernel_rfl) (fun _ => by kernel_rfl) (fun w' hh => run_now_l F p0 p1 r4 hb4 w' A1 c1 (SlOk.mono (SlOk.mono hs1 (View.le_trans (View.le_trans hV1 hV2) hV3)) hh.view)) ?_)
     intro u V5 hV5 hu
     obtain rfl := sureInt _ _ _ hu
     refine T.pure (.int .i64 r4) (by kernel_rfl) (fun _ => by kernel_rfl) ?_
     refine T.nil ?_
     refine T.seq ?_
     refine T.seq ?_
     refine T.region ?_
     refine T.pure (.int .i64 r4) (by kernel_rfl) (fun _ => by kernel_rfl) ?_
     refine T.pure (.bool (decide (r4 < 0))) (by kernel_rfl) (fun _ => by kernel_rfl) ?_
     refine T.nil ?_
     refine T.cond (decide (r4 < 0)) (by kernel_rfl) (by kernel_rfl) (fun hc4 => ?_) (fun hc4 => ?_)
     ·
      rw [hc4, cond_true] at hF
      refine T.seq ?_
      refine T.region ?_
      refine T.pure (.slice none 0 0) (by kernel_rfl) (fun _ => by kernel_rfl) ?_
      refine T.pure (.int .i64 4) (by kernel_rfl) (fun _ => by kernel_rfl) ?_
      refine T.nil ?_
      cases hF
      refine T.ret rfl ?_
      exact T.ret2 rfl (ResIs.tmp rfl) (ResIs.tmp rfl) fun w' hh => ⟨_, rfl, hh.below, (vT2.mk ⟨_, _, rfl, (SlOk.nil _ _)⟩ (show _ from rfl))⟩
     ·
      rw [hc4, cond_false] at hF
      refine T.skip_code ?_
      refine T.seq ?_
      refine T.region ?_
      refine T.pure (.slice A1 p0.length c1) (by kernel_rfl) (fun _ => by kernel_rfl) ?_
      refine T.rownil 36 eElem ?_
      obtain ⟨y1, hb5, hF⟩ := Option.bind_eq_some_iff.1 hF
      obtain ⟨hb5_r, hb5_m, rfl⟩ := grow_some hb5
      obtain ⟨ti, hti, hz1, hz2, hz3⟩ := info_parts (P := Tryd.prog) (e := 36) (z := .agg #[.int .i64 0, .int .i64 0, .int .i64 0, .int .i64 0, .int .i64 0, .string (ByteArray.mk #[])]) (size := 6) (bytes := 56) (by kernel_rfl)
      refine T.step (W1.append (E := eElem) (l := ([] : List DElem)) (m := p0) 0 _ _ 56 ti _ (by rfl) (by kernel_rfl) rfl (by kernel_rfl) hti hz1 hz2 hz3 rfl (by decide) rfl rfl (fun w' hh => (SlOk.srcF (SlOk.mono (SlOk.mono hs1 (View.le_trans (View.le_trans (View.le_trans hV1 hV2) hV3) hV5)) hh.view) (fun _ _ _ _ h => h))) hb5_r hb5_m (fun A2 c2 => ?_))
      refine T.pure (.slice A2 ((([] : List DElem) ++ p0).length) c2) (by kernel_rfl) (fun _ => by kernel_rfl) ?_
      refine T.nil ?_
      refine T.seq ?_
      refine T.seq ?_
      refine T.region ?_
      refine T.pure (.slice A2 ((([] : List DElem) ++ p0).length) c2) (by kernel_rfl) (fun _ => by kernel_rfl) ?_
      refine T.pure (.int .i64 r4) (by kernel_rfl) (fun _ => by kernel_rfl) ?_
      obtain ⟨e1, hb6, hF⟩ := Option.bind_eq_some_iff.1 hF
      obtain ⟨hi1, hi2, hi3⟩ := idx_some hb6
      refine T.look (.pointer (some ((sadr A2).add (r4.toNat * 6)))) (by kernel_rfl) (fun w' hh => exec_indexAddr (e := 36) (s := 6) rfl rfl rfl (by kernel_rfl) (by kernel_rfl) hi1 hi2 ((hh.row_slOk (i := 0) (by rfl)).some_ hi3 (by decide))) ?_
      refine T.pure (.pointer (some (((sadr A2).add (r4.toNat * 6)).add 3))) (by kernel_rfl) (fun _ => by kernel_rfl) ?_
      refine T.look (.int .i64 e1.made) (by kernel_rfl) (fun w' hh => exec_load1 rfl rfl (by kernel_rfl) (SlOk.wcellF (E := eElem) (hh.row_slOk (i := 0) (by rfl)) hi3 3 (fun _ _ _ h => h) rfl)) ?_
      refine T.pure (.int .i64 p2) (by kernel_rfl) (fun _ => by kernel_rfl) ?_
      refine T.pure (.bool (e1.made == p2)) (by kernel_rfl) (fun _ => by kernel_rfl) ?_
      refine T.nil ?_
      refine T.cond (e1.made == p2) (by kernel_rfl) (by kernel_rfl) (fun hc5 => ?_) (fun hc5 => ?_)
      ·
       rw [hc5, cond_true] at hF
       refine T.seq ?_
       obtain ⟨s1, hb7, hF⟩ := Option.bind_eq_some_iff.1 hF
       obtain ⟨s2, hb8, hF⟩ := Option.bind_eq_some_iff.1 hF
       obtain ⟨y2, hb9, hF⟩ := Option.bind_eq_some_iff.1 hF
       refine T.mid (fun a w' => ∃ (A4 : Option Addr) (c4 : Nat), Fr 62 [(6, .slice A4 ((s1 ++ s2).length) c4), (7, .int .i64 0)] a ∧ Hp w V5 [row 36 eElem A4 c4 (s1 ++ s2)] w') ?_ ?_
       ·
        refine T.held [box b1 34 [.int .i64 p1.pfs, .int .i64 p1.obj, .int .i64 p1.off]] (by kernel_rfl) ?_
        refine TA.take 0 (.slice A2 ((([] : List DElem) ++ p0).length) c2) rfl (by kernel_rfl) (by kernel_rfl) (by kernel_rfl) (fun _ _ _ h => h) (Hp.old (View.le_refl _) (View.le_trans (View.le_trans (View.le_trans hV1 hV2) hV3) hV5) (.cons _ (.cons_cons _ List.Sublist.slnil)) (OldAll.box OldAll.nil)) (by kernel_rfl) (fun _ _ => by kernel_rfl) ?_
        refine TA.take 1 (.int .i64 r4) rfl (by kernel_rfl) (by kernel_rfl) (by kernel_rfl) (fun _ _ _ h => h) (Hp.old (View.le_refl _) (View.le_trans (View.le_trans (View.le_trans hV1 hV2) hV3) hV5) (.cons _ (.cons_cons _ List.Sublist.slnil)) (OldAll.box OldAll.nil)) (by kernel_rfl) (fun _ _ => by kernel_rfl) ?_
        refine TA.take 3 (.slice A2 ((([] : List DElem) ++ p0).length) c2) rfl (by kernel_rfl) (by kernel_rfl) (by kernel_rfl) (fun _ _ _ h => h) (Hp.old (View.le_refl _) (View.le_trans (View.le_trans (View.le_trans hV1 hV2) hV3) hV5) (.cons _ (.cons_cons _ List.Sublist.slnil)) (OldAll.box OldAll.nil)) (by kernel_rfl) (fun _ _ => by kernel_rfl) ?_
        refine TA.take 4 (.int .i64 r4) rfl (by kernel_rfl) (by kernel_rfl) (by kernel_rfl) (fun _ _ _ h => h) (Hp.old (View.le_refl _) (View.le_trans (View.le_trans (View.le_trans hV1 hV2) hV3) hV5) (.cons _ (.cons_cons _ List.Sublist.slnil)) (OldAll.box OldAll.nil)) (by kernel_rfl) (fun _ _ => by kernel_rfl) ?_
        refine TA.take 5 (.int .i64 (IntKind.i64.wrap (r4 + 1))) rfl (by kernel_rfl) (by kernel_rfl) (by kernel_rfl) (fun _ _ _ h => h) (Hp.old (View.le_refl _) (View.le_trans (View.le_trans (View.le_trans hV1 hV2) hV3) hV5) (.cons _ (.cons_cons _ List.Sublist.slnil)) (OldAll.box OldAll.nil)) (by kernel_rfl) (fun _ _ => by kernel_rfl) ?_
        refine TA.all [2, 6] (by kernel_rfl) rfl ⟨?_, ?_, trivial⟩
        ·
         refine TA.br rfl (W1.look (.slice A2 s1.length c2) (by kernel_rfl) (fun w' hh => exec_slice_list0 (e := 36) (s := 6) (lx := none) (hx := (some _)) (k := .i64) (k' := .i64) rfl rfl (by kernel_rfl) (by kernel_rfl) ((hh.row_slOk (i := 0) (by rfl))).1 rfl rfl hb7) ?_)
         refine TA.on (Hp.old (View.le_refl _) (View.le_trans (View.le_trans (View.le_trans hV1 hV2) hV3) hV5) (.cons _ (.cons_cons _ List.Sublist.slnil)) (OldAll.box OldAll.nil)) ?_
         refine TA.all [6] (by kernel_rfl) rfl ⟨?_, trivial⟩
         refine TA.br rfl (W1.look (.slice (cutA A2 c2 (IntKind.i64.wrap (r4 + 1)).toNat 6) s2.length (c2 - (IntKind.i64.wrap (r4 + 1)).toNat)) (by kernel_rfl) (fun w' hh => exec_slice_list (e := 36) (s := 6) (lx := (some _)) (hx := none) (k := .i64) (k' := .i64) rfl rfl (by kernel_rfl) (by kernel_rfl) ((hh.row_slOk (i := 0) (by rfl))).1 rfl rfl hb8) ?_)
         refine TA.on (Hp.old (View.le_refl _) (View.le_trans (View.le_trans (View.le_trans hV1 hV2) hV3) hV5) (.cons _ (.cons_cons _ List.Sublist.slnil)) (OldAll.box OldAll.nil)) ?_
         refine TA.all [7] (by kernel_rfl) rfl ⟨?_, trivial⟩
         obtain ⟨hb9_r, hb9_m, rfl⟩ := grow_some hb9
         obtain ⟨ti, hti, hz1, hz2, hz3⟩ := info_parts (P := Tryd.prog) (e := 36) (z := .agg #[.int .i64 0, .int .i64 0, .int .i64 0, .int .i64 0, .int .i64 0, .string (ByteArray.mk #[])]) (size := 6) (bytes := 56) (by kernel_rfl)
         refine TA.br rfl (W1.appendTo (E := eElem) (l := s1) (m := s2) 0 _ _ 56 ti _ (by rfl) (lslice_prefix hb7) (by kernel_rfl) rfl (by kernel_rfl) hti hz1 hz2 hz3 rfl (by decide) rfl rfl (fun w' hh => (SlOk.srcF (SlOk.cut (hh.row_slOk (i := 0) (by rfl)) hb8) (fun _ _ _ _ h => h))) hb9_r hb9_m (fun A3 c3 => ?_))
         refine TA.on (Hp.old (View.le_refl _) (View.le_trans (View.le_trans (View.le_trans hV1 hV2) hV3) hV5) (.cons _ (.cons_cons _ List.Sublist.slnil)) (OldAll.box OldAll.nil)) ?_
         refine TA.take 8 (.slice A3 ((s1 ++ s2).length) c3) rfl (by kernel_rfl) (by kernel_rfl) (by kernel_rfl) (fun _ _ _ h => h) (Hp.old (View.le_refl _) (View.le_trans (View.le_trans (View.le_trans hV1 hV2) hV3) hV5) (.cons _ (.cons_cons _ List.Sublist.slnil)) (OldAll.box OldAll.nil)) (by kernel_rfl) (fun _ _ => by kernel_rfl) ?_
         refine TA.take 9 (.int .i64 0) rfl (by kernel_rfl) (by kernel_rfl) (by kernel_rfl) (fun _ _ _ h => h) (Hp.old (View.le_refl _) (View.le_trans (View.le_trans (View.le_trans hV1 hV2) hV3) hV5) (.cons _ (.cons_cons _ List.Sublist.slnil)) (OldAll.box OldAll.nil)) (by kernel_rfl) (fun _ _ => by kernel_rfl) ?_
         refine TA.done (by kernel_rfl) ?_
         exact fun a w' hf hh => Exists.intro A3 (Exists.intro c3 (And.intro (((Fr.nil hf).pick hf 7 rfl).pick hf 6 rfl) (hh.sub (.cons_cons _ (.cons _ List.Sublist.slnil)))))
        ·
         refine TA.br rfl (W1.look (.slice (cutA A2 c2 (IntKind.i64.wrap (r4 + 1)).toNat 6) s2.length (c2 - (IntKind.i64.wrap (r4 + 1)).toNat)) (by kernel_rfl) (fun w' hh => exec_slice_list (e := 36) (s := 6) (lx := (some _)) (hx := none) (k := .i64) (k' := .i64) rfl rfl (by kernel_rfl) (by kernel_rfl) ((hh.row_slOk (i := 0) (by rfl))).1 rfl rfl hb8) ?_)
         refine TA.on (Hp.old (View.le_refl _) (View.le_trans (View.le_trans (View.le_trans hV1 hV2) hV3) hV5) (.cons _ (.cons_cons _ List.Sublist.slnil)) (OldAll.box OldAll.nil)) ?_
         refine TA.all [2] (by kernel_rfl) rfl ⟨?_, trivial⟩
         refine TA.br rfl (W1.look (.slice A2 s1.length c2) (by kernel_rfl) (fun w' hh => exec_slice_list0 (e := 36) (s := 6) (lx := none) (hx := (some _)) (k := .i64) (k' := .i64) rfl rfl (by kernel_rfl) (by kernel_rfl) ((hh.row_slOk (i := 0) (by rfl))).1 rfl rfl hb7) ?_)
         refine TA.on (Hp.old (View.le_refl _) (View.le_trans (View.le_trans (View.le_trans hV1 hV2) hV3) hV5) (.cons _ (.cons_cons _ List.Sublist.slnil)) (OldAll.box OldAll.nil)) ?_
         refine TA.all [7] (by kernel_rfl) rfl ⟨?_, trivial⟩
         obtain ⟨hb9_r, hb9_m, rfl⟩ := grow_some hb9
         obtain ⟨ti, hti, hz1, hz2, hz3⟩ := info_parts (P := Tryd.prog) (e := 36) (z := .agg #[.int .i64 0, .int .i64 0, .int .i64 0, .int .i64 0, .int .i64 0, .string (ByteArray.mk #[])]) (size := 6) (bytes := 56) (by kernel_rfl)
         refine TA.br rfl (W1.appendTo (E := eElem) (l := s1) (m := s2) 0 _ _ 56 ti _ (by rfl) (lslice_prefix hb7) (by kernel_rfl) rfl (by kernel_rfl) hti hz1 hz2 hz3 rfl (by decide) rfl rfl (fun w' hh => (SlOk.srcF (SlOk.cut (hh.row_slOk (i := 0) (by rfl)) hb8) (fun _ _ _ _ h => h))) hb9_r hb9_m (fun A3 c3 => ?_))
         refine TA.on (Hp.old (View.le_refl _) (View.le_trans (View.le_trans (View.le_trans hV1 hV2) hV3) hV5) (.cons _ (.cons_cons _ List.Sublist.slnil)) (OldAll.box OldAll.nil)) ?_
         refine TA.take 8 (.slice A3 ((s1 ++ s2).length) c3) rfl (by kernel_rfl) (by kernel_rfl) (by kernel_rfl) (fun _ _ _ h => h) (Hp.old (View.le_refl _) (View.le_trans (View.le_trans (View.le_trans hV1 hV2) hV3) hV5) (.cons _ (.cons_cons _ List.Sublist.slnil)) (OldAll.box OldAll.nil)) (by kernel_rfl) (fun _ _ => by kernel_rfl) ?_
         refine TA.take 9 (.int .i64 0) rfl (by kernel_rfl) (by kernel_rfl) (by kernel_rfl) (fun _ _ _ h => h) (Hp.old (View.le_refl _) (View.le_trans (View.le_trans (View.le_trans hV1 hV2) hV3) hV5) (.cons _ (.cons_cons _ List.Sublist.slnil)) (OldAll.box OldAll.nil)) (by kernel_rfl) (fun _ _ => by kernel_rfl) ?_
         refine TA.done (by kernel_rfl) ?_
         exact fun a w' hf hh => Exists.intro A3 (Exists.intro c3 (And.intro (((Fr.nil hf).pick hf 7 rfl).pick hf 6 rfl) (hh.sub (.cons_cons _ (.cons _ List.Sublist.slnil)))))
       ·
        rintro a w' ⟨A4, c4, hf, hh⟩
        refine (?_ : T 62 w V5 [row 36 eElem A4 c4 (s1 ++ s2)] [(6, .slice A4 ((s1 ++ s2).length) c4), (7, .int .i64 0)] _) a w' hf hh
        clear hf hh
        cases hF
        refine T.ret rfl ?_
        exact T.ret2 rfl (ResIs.tmp rfl) (ResIs.tmp rfl) fun w' hh => ⟨_, rfl, hh.below, (vT2.mk ⟨_, _, rfl, (hh.row_fresh (i := 0) (by rfl) (fun _ h => h))⟩ (show _ from rfl))⟩
      ·
       rw [hc5, cond_false] at hF
       refine T.skip_code ?_
       refine T.seq ?_
       refine T.region ?_
       refine T.pure (.slice A2 ((([] : List DElem) ++ p0).length) c2) (by kernel_rfl) (fun _ => by kernel_rfl) ?_
       refine T.pure (.int .i64 r4) (by kernel_rfl) (fun _ => by kernel_rfl) ?_
       refine T.pure (.int .i64 p2) (by kernel_rfl) (fun _ => by kernel_rfl) ?_
       obtain ⟨e2, hb10, hF⟩ := Option.bind_eq_some_iff.1 hF
       obtain ⟨hi4, hi5, hi6⟩ := idx_some hb10
       refine T.look (.pointer (some ((sadr A2).add (r4.toNat * 6)))) (by kernel_rfl) (fun w' hh => exec_indexAddr (e := 36) (s := 6) rfl rfl rfl (by kernel_rfl) (by kernel_rfl) hi4 hi5 ((hh.row_slOk (i := 0) (by rfl)).some_ hi6 (by decide))) ?_
       refine T.pure (.pointer (some (((sadr A2).add (r4.toNat * 6)).add 4))) (by kernel_rfl) (fun _ => by kernel_rfl) ?_
       refine T.step (W1.storeRow (E := eElem) 0 (r4.toNat) 4 e2 (DElem.mk e2.key e2.made p2 e2.val) _ (vs := [.int .i64 p2]) (by rfl) (by kernel_rfl) rfl rfl rfl rfl rfl (fun _ => by kernel_rfl) (one_of rfl) hi6 (Nat.le_of_ble_eq_true (by kernel_rfl)) (fun _ _ h => by cases h; rfl) ?_)
       refine T.reslot 11 (.slice A2 (((([] : List DElem) ++ p0).set r4.toNat (DElem.mk e2.key e2.made p2 e2.val)).length) c2) rfl (by simp only [List.length_set]) ?_
       refine T.reslot 40 (.slice A2 (((([] : List DElem) ++ p0).set r4.toNat (DElem.mk e2.key e2.made p2 e2.val)).length) c2) rfl (by simp only [List.length_set]) ?_
       refine T.reslot 41 (.slice A2 (((([] : List DElem) ++ p0).set r4.toNat (DElem.mk e2.key e2.made p2 e2.val)).length) c2) rfl (by simp only [List.length_set]) ?_
       refine T.reslot 56 (.slice A2 (((([] : List DElem) ++ p0).set r4.toNat (DElem.mk e2.key e2.made p2 e2.val)).length) c2) rfl (by simp only [List.length_set]) ?_
       refine T.nil ?_
       refine T.seq ?_
       refine T.region ?_
       refine T.pure (.slice A2 (((([] : List DElem) ++ p0).set r4.toNat (DElem.mk e2.key e2.made p2 e2.val)).length) c2) (by kernel_rfl) (fun _ => by kernel_rfl) ?_
       refine T.pure (.slice A2 (((([] : List DElem) ++ p0).set r4.toNat (DElem.mk e2.key e2.made p2 e2.val)).length) c2) (by kernel_rfl) (fun _ => by kernel_rfl) ?_
       refine T.pure (.int .i64 0) (by kernel_rfl) (fun _ => by kernel_rfl) ?_
       refine T.nil ?_
       cases hF
       refine T.ret rfl ?_
       exact T.ret2 rfl (ResIs.tmp rfl) (ResIs.tmp rfl) fun w' hh => ⟨_, rfl, hh.below, (vT2.mk ⟨_, _, rfl, (hh.row_fresh (i := 0) (by rfl) (fun _ h => h))⟩ (show _ from rfl))⟩

end Go.Proofs.YtaccejbajgmdnaaDoor
