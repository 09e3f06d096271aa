/- The Go functions of group Prune compute the pure functions of that group: written by walkgen.py. Condition of each: the pure function yields a result. -/
import Derived.Test.YtaodaihoglcinaaRunL
import Derived.Test.YtaodaihoglcinaaSpoil
import Derived.Test.YtaodaihoglcinaaPruneF
import Derived.Test.YtaodaihoglcinaaEqL
namespace Go.Proofs.Ytaodaihoglcinaa
set_option linter.unusedVariables false

set_option maxRecDepth 100000 in
set_option maxHeartbeats 4000000 in
theorem prune_times_l (F : Nat) (p0 : (List Int)) (r : Int) (hF : prune_times F p0 = some r) (w : World) (A1 : Option Addr) (c1 : Nat) (hs1 : SlOk (vw w) eInt A1 c1 p0) :
    Calls Try.prog 22 #[.slice A1 p0.length c1] w (Post (vSc eInt) r w) := by
 unfold prune_times at hF
 refine T.start (l := [.slice A1 p0.length c1]) Try.func22 rfl rfl rfl ?_
 refine T.seq ?_
 refine T.region ?_
 refine T.pure (.int .i64 0) (by kernel_rfl) (fun _ => by kernel_rfl) ?_
 refine T.nil ?_
 refine T.seq ?_
 refine T.seq ?_
 refine T.region ?_
 refine T.pure (.slice A1 p0.length c1) (by kernel_rfl) (fun _ => by kernel_rfl) ?_
 refine T.pure (.int .i64 (p0.length : Int)) (by kernel_rfl) (fun _ => by kernel_rfl) ?_
 refine T.pure (.bool (decide ((20 : Int) < (p0.length : Int)))) (by kernel_rfl) (fun _ => by kernel_rfl) ?_
 refine T.nil ?_
 refine T.cond (decide ((20 : Int) < (p0.length : Int))) (by kernel_rfl) (by kernel_rfl) (fun hc1 => ?_) (fun hc1 => ?_)
 ·
  rw [hc1, cond_true] at hF
  refine T.seq ?_
  refine T.region ?_
  refine T.pure (.int .i64 2) (by kernel_rfl) (fun _ => by kernel_rfl) ?_
  refine T.nil ?_
  cases hF
  refine T.ret rfl ?_
  exact T.ret1 rfl (ResIs.tmp rfl) fun w' hh => ⟨_, rfl, hh.below, (show _ from rfl)⟩
 ·
  rw [hc1, cond_false] at hF
  refine T.skip_code ?_
  refine T.seq ?_
  refine T.seq ?_
  refine T.region ?_
  refine T.pure (.slice A1 p0.length c1) (by kernel_rfl) (fun _ => by kernel_rfl) ?_
  refine T.pure (.int .i64 (p0.length : Int)) (by kernel_rfl) (fun _ => by kernel_rfl) ?_
  refine T.pure (.int .i64 0) (by kernel_rfl) (fun _ => by kernel_rfl) ?_
  refine T.nil ?_
  obtain ⟨q1, hz1, hF⟩ := Option.bind_eq_some_iff.1 hF
  refine T.mid (fun a w' => q1 = Sum.inl () ∧ Fr 21 [] a ∧ Hp w (vw w) [] w') ?_ ?_
  ·
   refine T.block ?_
   refine T.iter (fun x1 a w' => Fr 21 [(8, .slice A1 p0.length c1), (9, .int .i64 (p0.length : Int)), (10, .int .i64 x1)] a ∧ Hp w (vw w) [] w') hz1 ?_ ?_
   ·
    exact fun a w' hf hh => And.intro ((((Fr.nil hf).pick hf 10 rfl).pick hf 9 rfl).pick hf 8 rfl) (hh.sub List.Sublist.slnil)
   ·
    rintro x1 y1 hY1 hr1 a w' ⟨hf, hh⟩
    refine (?_ : T 21 w (vw w) [] [(8, .slice A1 p0.length c1), (9, .int .i64 (p0.length : Int)), (10, .int .i64 x1)] _) a w' hf hh
    clear hf hh
    try dsimp only at hY1
    refine T.seq ?_
    refine T.region ?_
    refine T.pure (.bool (decide (x1 < (p0.length : Int)))) (by kernel_rfl) (fun _ => by kernel_rfl) ?_
    refine T.nil ?_
    refine T.seq ?_
    refine T.cond (decide (x1 < (p0.length : Int))) (by kernel_rfl) (by kernel_rfl) (fun hc2 => ?_) (fun hc2 => ?_)
    ·
     rw [hc2, cond_true] at hY1
     refine T.skip_code ?_
     refine T.seq ?_
     refine T.block ?_
     refine T.seq ?_
     refine T.region ?_
     obtain ⟨e1, hb1, hY1⟩ := Option.bind_eq_some_iff.1 hY1
     obtain ⟨hi1, hi2, hi3⟩ := idx_some hb1
     refine T.look (.pointer (some ((sadr A1).add (x1.toNat * 1)))) (by kernel_rfl) (fun w' hh => exec_indexAddr (e := 3) (s := 1) rfl rfl rfl (by kernel_rfl) (by kernel_rfl) hi1 hi2 (hs1.some_ hi3 (by decide))) ?_
     refine T.look (.int .i64 e1) (by kernel_rfl) (fun w' hh => exec_load1 rfl rfl (by kernel_rfl) (hh.cell_view (SlOk.cellF0 (E := eInt) hs1 hi3 (fun _ _ _ h => h) rfl))) ?_
     refine T.pure (.int .i64 e1) (by kernel_rfl) (fun _ => by kernel_rfl) ?_
     refine T.nil ?_
     refine T.cut (fun a w' => Fr 21 [(8, .slice A1 p0.length c1), (9, .int .i64 (p0.length : Int)), (10, .int .i64 x1), (19, .bool ((decide (e1 < 0)) || (decide ((2147483647 : Int) < e1))))] a ∧ Hp w (vw w) [] w') ?_ ?_
     ·
      refine T.region ?_
      refine T.pure (.int .i64 e1) (by kernel_rfl) (fun _ => by kernel_rfl) ?_
      refine T.pure (.bool (decide (e1 < 0))) (by kernel_rfl) (fun _ => by kernel_rfl) ?_
      refine T.pure (.bool (decide (e1 < 0))) (by kernel_rfl) (fun _ => by kernel_rfl) ?_
      cases hg1 : decide (e1 < 0)
      ·
       skip
       refine T.pure (.int .i64 e1) (by kernel_rfl) (fun _ => by kernel_rfl) ?_
       refine T.pure (.bool (decide ((2147483647 : Int) < e1))) (by kernel_rfl) (fun _ => by kernel_rfl) ?_
       refine T.pure (.bool (decide ((2147483647 : Int) < e1))) (by kernel_rfl) (fun _ => by kernel_rfl) ?_
       refine T.nil ?_
       exact fun a w' hf hh => And.intro (((((Fr.nil hf).pick hf 19 rfl).pick hf 10 rfl).pick hf 9 rfl).pick hf 8 rfl) (hh.sub List.Sublist.slnil)
      ·
       skip
       refine T.pass (by kernel_rfl) (by kernel_rfl) ?_
       refine T.pass (by kernel_rfl) (by kernel_rfl) ?_
       refine T.pure (.bool true) (by kernel_rfl) (fun _ => by kernel_rfl) ?_
       refine T.nil ?_
       exact fun a w' hf hh => And.intro (((((Fr.nil hf).pick hf 19 rfl).pick hf 10 rfl).pick hf 9 rfl).pick hf 8 rfl) (hh.sub List.Sublist.slnil)
     ·
      rintro a w' ⟨hf, hh⟩
      refine (?_ : T 21 w (vw w) [] [(8, .slice A1 p0.length c1), (9, .int .i64 (p0.length : Int)), (10, .int .i64 x1), (19, .bool ((decide (e1 < 0)) || (decide ((2147483647 : Int) < e1))))] _) a w' hf hh
      clear hf hh
      refine T.cond ((decide (e1 < 0)) || (decide ((2147483647 : Int) < e1))) (by kernel_rfl) (by kernel_rfl) (fun hc3 => ?_) (fun hc3 => ?_)
      ·
       rw [hc3, cond_true] at hY1
       refine T.seq ?_
       refine T.region ?_
       refine T.pure (.int .i64 9) (by kernel_rfl) (fun _ => by kernel_rfl) ?_
       refine T.nil ?_
       cases hY1
       cases (hr1 _ rfl)
       try dsimp only at hF
       cases hF
       refine T.ret rfl ?_
       exact T.ret1 rfl (ResIs.tmp rfl) fun w' hh => ⟨_, rfl, hh.below, (show _ from rfl)⟩
      ·
       rw [hc3, cond_false] at hY1
       refine T.skip_code ?_
       refine T.region ?_
       refine T.pure (.int .i64 (IntKind.i64.wrap (x1 + 1))) (by kernel_rfl) (fun _ => by kernel_rfl) ?_
       refine T.pure (.int .i64 (IntKind.i64.wrap (x1 + 1))) (by kernel_rfl) (fun _ => by kernel_rfl) ?_
       refine T.nil ?_
       cases hY1
       exact fun a w' hf hh => Exists.intro (IntKind.i64.wrap (x1 + 1)) (And.intro rfl (And.intro ((((Fr.nil hf).pick hf 10 rfl).pick hf 9 rfl).pick hf 8 rfl) (hh.sub List.Sublist.slnil)))
    ·
     rw [hc2, cond_false] at hY1
     refine T.exit ?_
     cases hY1
     cases (hr1 _ rfl)
     exact fun a w' hf hh => And.intro rfl (And.intro (Fr.nil hf) (hh.sub List.Sublist.slnil))
  ·
   rintro a w' ⟨rfl, hf, hh⟩
   try dsimp only at hF
   refine (?_ : T 21 w (vw w) [] [] _) a w' hf hh
   clear hf hh
   refine T.seq ?_
   refine T.region ?_
   refine T.pure (.int .i64 0) (by kernel_rfl) (fun _ => by kernel_rfl) ?_
   refine T.nil ?_
   cases hF
   refine T.ret rfl ?_
   exact T.ret1 rfl (ResIs.tmp rfl) fun w' hh => ⟨_, rfl, hh.below, (show _ from rfl)⟩

set_option maxRecDepth 100000 in
set_option maxHeartbeats 4000000 in
theorem prune_stays_l (F : Nat) (p0 : DElem) (p1 : (List Int)) (r : Bool) (hF : prune_stays F p0 p1 = some r) (w : World) (A1 : Option Addr) (c1 : Nat) (hs1 : SlOk (vw w) eInt A1 c1 p1) :
    Calls Try.prog 23 #[.agg #[.int .i64 p0.key.pfs, .int .i64 p0.key.obj, .int .i64 p0.key.off, .int .i64 p0.made, .int .i64 p0.gone, .string p0.val], .slice A1 p1.length c1] w (Post (vSc eBool) r w) := by
 unfold prune_stays at hF
 refine T.start (l := [.agg #[.int .i64 p0.key.pfs, .int .i64 p0.key.obj, .int .i64 p0.key.off, .int .i64 p0.made, .int .i64 p0.gone, .string p0.val], .slice A1 p1.length c1]) Try.func23 rfl rfl rfl ?_
 refine T.seq ?_
 refine T.region ?_
 refine T.step (W1.new 28 [.int .i64 p0.key.pfs, .int .i64 p0.key.obj, .int .i64 p0.key.off, .int .i64 p0.made, .int .i64 p0.gone, .string p0.val] (fun b => .pointer (some ⟨b, 0, none⟩)) (by kernel_rfl) (fun _ => by kernel_rfl) (fun b1 => ?_))
 refine T.pure (.bool false) (by kernel_rfl) (fun _ => by kernel_rfl) ?_
 refine T.nil ?_
 refine T.seq ?_
 refine T.seq ?_
 refine T.region ?_
 refine T.pure (.pointer (some ⟨b1, 4, none⟩)) (by kernel_rfl) (fun _ => by kernel_rfl) ?_
 refine T.look (.int .i64 p0.gone) (by kernel_rfl) (fun w' hh => exec_load1 rfl rfl (by kernel_rfl) (hh.cellBox (i := 0) (by rfl) 4)) ?_
 refine T.pure (.bool (p0.gone == 0)) (by kernel_rfl) (fun _ => by kernel_rfl) ?_
 refine T.nil ?_
 refine T.cond (p0.gone == 0) (by kernel_rfl) (by kernel_rfl) (fun hc1 => ?_) (fun hc1 => ?_)
 ·
  rw [hc1, cond_true] at hF
  refine T.seq ?_
  refine T.region ?_
  refine T.pure (.bool true) (by kernel_rfl) (fun _ => by kernel_rfl) ?_
  refine T.nil ?_
  cases hF
  refine T.ret rfl ?_
  exact T.ret1 rfl (ResIs.tmp rfl) fun w' hh => ⟨_, rfl, hh.below, (show _ from rfl)⟩
 ·
  rw [hc1, cond_false] at hF
  refine T.skip_code ?_
  refine T.seq ?_
  refine T.seq ?_
  refine T.region ?_
  refine T.pure (.slice A1 p1.length c1) (by kernel_rfl) (fun _ => by kernel_rfl) ?_
  refine T.pure (.int .i64 (p1.length : Int)) (by kernel_rfl) (fun _ => by kernel_rfl) ?_
  refine T.pure (.int .i64 0) (by kernel_rfl) (fun _ => by kernel_rfl) ?_
  refine T.nil ?_
  obtain ⟨q1, hz1, hF⟩ := Option.bind_eq_some_iff.1 hF
  refine T.mid (fun a w' => q1 = Sum.inl () ∧ ∃ (V2 : View), View.le (vw w) V2 ∧ Fr 20 [] a ∧ Hp w V2 [] w') ?_ ?_
  ·
   refine T.block ?_
   refine T.iter (fun x1 a w' => ∃ (V1 : View), View.le (vw w) V1 ∧ Fr 20 [(2, .pointer (some ⟨b1, 0, none⟩)), (10, .slice A1 p1.length c1), (11, .int .i64 (p1.length : Int)), (12, .int .i64 x1)] a ∧ Hp w V1 [box b1 28 [.int .i64 p0.key.pfs, .int .i64 p0.key.obj, .int .i64 p0.key.off, .int .i64 p0.made, .int .i64 p0.gone, .string p0.val]] w') hz1 ?_ ?_
   ·
    exact fun a w' hf hh => Exists.intro (vw w) (And.intro (View.le_refl _) (And.intro (((((Fr.nil hf).pick hf 12 rfl).pick hf 11 rfl).pick hf 10 rfl).pick hf 2 rfl) (hh.sub (.cons_cons _ List.Sublist.slnil))))
   ·
    rintro x1 y1 hY1 hr1 a w' ⟨V1, hV1, hf, hh⟩
    refine (?_ : T 20 w V1 [box b1 28 [.int .i64 p0.key.pfs, .int .i64 p0.key.obj, .int .i64 p0.key.off, .int .i64 p0.made, .int .i64 p0.gone, .string p0.val]] [(2, .pointer (some ⟨b1, 0, none⟩)), (10, .slice A1 p1.length c1), (11, .int .i64 (p1.length : Int)), (12, .int .i64 x1)] _) a w' hf hh
    clear hf hh
    try dsimp only at hY1
    refine T.seq ?_
    refine T.region ?_
    refine T.pure (.bool (decide (x1 < (p1.length : Int)))) (by kernel_rfl) (fun _ => by kernel_rfl) ?_
    refine T.nil ?_
    refine T.seq ?_
    refine T.cond (decide (x1 < (p1.length : Int))) (by kernel_rfl) (by kernel_rfl) (fun hc2 => ?_) (fun hc2 => ?_)
    ·
     rw [hc2, cond_true] at hY1
     refine T.skip_code ?_
     refine T.seq ?_
     refine T.block ?_
     refine T.seq ?_
     refine T.region ?_
     obtain ⟨e1, hb1, hY1⟩ := Option.bind_eq_some_iff.1 hY1
     obtain ⟨hi1, hi2, hi3⟩ := idx_some hb1
     refine T.look (.pointer (some ((sadr A1).add (x1.toNat * 1)))) (by kernel_rfl) (fun w' hh => exec_indexAddr (e := 3) (s := 1) rfl rfl rfl (by kernel_rfl) (by kernel_rfl) hi1 hi2 ((SlOk.mono hs1 hV1).some_ hi3 (by decide))) ?_
     refine T.look (.int .i64 e1) (by kernel_rfl) (fun w' hh => exec_load1 rfl rfl (by kernel_rfl) (hh.cell_view (SlOk.cellF0 (E := eInt) (SlOk.mono hs1 hV1) hi3 (fun _ _ _ h => h) rfl))) ?_
     refine T.pure (.int .i64 e1) (by kernel_rfl) (fun _ => by kernel_rfl) ?_
     refine T.nil ?_
     refine T.seq ?_
     refine T.region ?_
     refine T.look (.agg #[.int .i64 p0.key.pfs, .int .i64 p0.key.obj, .int .i64 p0.key.off, .int .i64 p0.made, .int .i64 p0.gone, .string p0.val]) (by kernel_rfl) (fun w' hh => exec_loadN (cs := [.int .i64 p0.key.pfs, .int .i64 p0.key.obj, .int .i64 p0.key.off, .int .i64 p0.made, .int .i64 p0.gone, .string p0.val]) rfl rfl (by kernel_rfl) (by kernel_rfl) (fun j u hj => (hh.box_at (i := 0) (cs := [.int .i64 p0.key.pfs, .int .i64 p0.key.obj, .int .i64 p0.key.off, .int .i64 p0.made, .int .i64 p0.gone, .string p0.val]) (by rfl) 0 j).trans (seg_at (n := 6) (by rfl) hj))) ?_
     refine T.pure (.int .i64 e1) (by kernel_rfl) (fun _ => by kernel_rfl) ?_
     obtain ⟨r1, hb2, hY1⟩ := Option.bind_eq_some_iff.1 hY1
     refine T.step (W1.call (vSc eBool) r1 21 #[.agg #[.int .i64 p0.key.pfs, .int .i64 p0.key.obj, .int .i64 p0.key.off, .int .i64 p0.made, .int .i64 p0.gone, .string p0.val], .int .i64 e1] (by kernel_rfl) (fun _ => by kernel_rfl) (fun w' hh => elem_Live_l p0 e1 r1 hb2 w' ) ?_)
     intro u V3 hV3 hu
     obtain rfl := sureBool _ _ _ hu
     refine T.nil ?_
     refine T.cond r1 (by kernel_rfl) (by kernel_rfl) (fun hc3 => ?_) (fun hc3 => ?_)
     ·
      rw [hc3, cond_true] at hY1
      refine T.seq ?_
      refine T.region ?_
      refine T.pure (.bool true) (by kernel_rfl) (fun _ => by kernel_rfl) ?_
      refine T.nil ?_
      cases hY1
      cases (hr1 _ rfl)
      try dsimp only at hF
      cases hF
      refine T.ret rfl ?_
      exact T.ret1 rfl (ResIs.tmp rfl) fun w' hh => ⟨_, rfl, hh.below, (show _ from rfl)⟩
     ·
      rw [hc3, cond_false] at hY1
      refine T.skip_code ?_
      refine T.region ?_
      refine T.pure (.int .i64 (IntKind.i64.wrap (x1 + 1))) (by kernel_rfl) (fun _ => by kernel_rfl) ?_
      refine T.pure (.int .i64 (IntKind.i64.wrap (x1 + 1))) (by kernel_rfl) (fun _ => by kernel_rfl) ?_
      refine T.nil ?_
      cases hY1
      exact fun a w' hf hh => Exists.intro (IntKind.i64.wrap (x1 + 1)) (And.intro rfl (Exists.intro V3 (And.intro (View.le_trans hV1 hV3) (And.intro (((((Fr.nil hf).pick hf 12 rfl).pick hf 11 rfl).pick hf 10 rfl).pick hf 2 rfl) (hh.sub (.cons_cons _ List.Sublist.slnil))))))
    ·
     rw [hc2, cond_false] at hY1
     refine T.exit ?_
     cases hY1
     cases (hr1 _ rfl)
     exact fun a w' hf hh => And.intro rfl (Exists.intro V1 (And.intro hV1 (And.intro (Fr.nil hf) (hh.sub (.cons _ List.Sublist.slnil)))))
  ·
   rintro a w' ⟨rfl, V2, hV2, hf, hh⟩
   try dsimp only at hF
   refine (?_ : T 20 w V2 [] [] _) a w' hf hh
   clear hf hh
   refine T.seq ?_
   refine T.region ?_
   refine T.pure (.bool false) (by kernel_rfl) (fun _ => by kernel_rfl) ?_
   refine T.nil ?_
   cases hF
   refine T.ret rfl ?_
   exact T.ret1 rfl (ResIs.tmp rfl) fun w' hh => ⟨_, rfl, hh.below, (show _ from rfl)⟩

set_option maxRecDepth 100000 in
set_option maxHeartbeats 4000000 in
theorem prune_Kept_l (F : Nat) (p0 : (List DElem)) (p1 : (List Int)) (r : ((List DElem)) × Int) (hF : prune_Kept F p0 p1 = some r) (w : World) (A1 : Option Addr) (c1 : Nat) (hs1 : SlOk (vw w) eElem A1 c1 p0) (A2 : Option Addr) (c2 : Nat) (hs2 : SlOk (vw w) eInt A2 c2 p1) :
    Calls Try.prog 9 #[.slice A1 p0.length c1, .slice A2 p1.length c2] w (OwnRow 28 eElem r w) := by
 unfold prune_Kept at hF
 refine T.start (l := [.slice A1 p0.length c1, .slice A2 p1.length c2]) Try.func9 rfl rfl rfl ?_
 refine T.seq ?_
 refine T.region ?_
 refine T.pure (.slice none 0 0) (by kernel_rfl) (fun _ => by kernel_rfl) ?_
 refine T.pure (.int .i64 0) (by kernel_rfl) (fun _ => by kernel_rfl) ?_
 refine T.nil ?_
 refine T.seq ?_
 refine T.seq ?_
 refine T.region ?_
 refine T.pure (.slice A1 p0.length c1) (by kernel_rfl) (fun _ => by kernel_rfl) ?_
 obtain ⟨r1, hb1, hF⟩ := Option.bind_eq_some_iff.1 hF
 refine T.step (W1.call (vSc eInt) r1 14 #[.slice A1 p0.length c1] (by kernel_rfl) (fun _ => by kernel_rfl) (fun w' hh => run_Check_l F p0 r1 hb1 w' A1 c1 (SlOk.mono hs1 hh.view)) ?_)
 intro u V1 hV1 hu
 obtain rfl := sureInt _ _ _ hu
 refine T.pure (.int .i64 r1) (by kernel_rfl) (fun _ => by kernel_rfl) ?_
 refine T.nil ?_
 refine T.seq ?_
 refine T.region ?_
 refine T.pure (.int .i64 r1) (by kernel_rfl) (fun _ => by kernel_rfl) ?_
 refine T.pure (.bool (r1 != 0)) (by kernel_rfl) (fun _ => by kernel_rfl) ?_
 refine T.nil ?_
 refine T.cond (r1 != 0) (by kernel_rfl) (by kernel_rfl) (fun hc1 => ?_) (fun hc1 => ?_)
 ·
  rw [hc1, cond_true] at hF
  refine T.seq ?_
  refine T.region ?_
  refine T.pure (.int .i64 r1) (by kernel_rfl) (fun _ => by kernel_rfl) ?_
  refine T.pure (.slice none 0 0) (by kernel_rfl) (fun _ => by kernel_rfl) ?_
  refine T.pure (.int .i64 r1) (by kernel_rfl) (fun _ => by kernel_rfl) ?_
  refine T.nil ?_
  refine T.rownil 28 eElem ?_
  cases hF
  refine T.ret rfl ?_
  exact T.ret2 rfl (ResIs.tmp rfl) (ResIs.tmp rfl) fun w' hh => ⟨(none, 0), rfl, trivial, gives_of (hh.sub (.cons_cons _ List.Sublist.slnil)) ⟨flat_row (fun _ _ _ _ h => h), trivial⟩⟩
 ·
  rw [hc1, cond_false] at hF
  refine T.skip_code ?_
  refine T.seq ?_
  refine T.seq ?_
  refine T.region ?_
  refine T.pure (.slice A2 p1.length c2) (by kernel_rfl) (fun _ => by kernel_rfl) ?_
  obtain ⟨r3, hb2, hF⟩ := Option.bind_eq_some_iff.1 hF
  refine T.step (W1.call (vSc eInt) r3 22 #[.slice A2 p1.length c2] (by kernel_rfl) (fun _ => by kernel_rfl) (fun w' hh => prune_times_l F p1 r3 hb2 w' A2 c2 (SlOk.mono (SlOk.mono hs2 hV1) hh.view)) ?_)
  intro u V2 hV2 hu
  obtain rfl := sureInt _ _ _ hu
  refine T.pure (.int .i64 r3) (by kernel_rfl) (fun _ => by kernel_rfl) ?_
  refine T.nil ?_
  refine T.seq ?_
  refine T.region ?_
  refine T.pure (.int .i64 r3) (by kernel_rfl) (fun _ => by kernel_rfl) ?_
  refine T.pure (.bool (r3 != 0)) (by kernel_rfl) (fun _ => by kernel_rfl) ?_
  refine T.nil ?_
  refine T.cond (r3 != 0) (by kernel_rfl) (by kernel_rfl) (fun hc2 => ?_) (fun hc2 => ?_)
  ·
   rw [hc2, cond_true] at hF
   refine T.seq ?_
   refine T.region ?_
   refine T.pure (.int .i64 r3) (by kernel_rfl) (fun _ => by kernel_rfl) ?_
   refine T.pure (.slice none 0 0) (by kernel_rfl) (fun _ => by kernel_rfl) ?_
   refine T.pure (.int .i64 r3) (by kernel_rfl) (fun _ => by kernel_rfl) ?_
   refine T.nil ?_
   refine T.rownil 28 eElem ?_
   cases hF
   refine T.ret rfl ?_
   exact T.ret2 rfl (ResIs.tmp rfl) (ResIs.tmp rfl) fun w' hh => ⟨(none, 0), rfl, trivial, gives_of (hh.sub (.cons_cons _ List.Sublist.slnil)) ⟨flat_row (fun _ _ _ _ h => h), trivial⟩⟩
  ·
   rw [hc2, cond_false] at hF
   refine T.skip_code ?_
   refine T.seq ?_
   refine T.region ?_
   refine T.pure (.slice none 0 0) (by kernel_rfl) (fun _ => by kernel_rfl) ?_
   refine T.nil ?_
   refine T.seq ?_
   refine T.seq ?_
   refine T.region ?_
   refine T.pure (.slice A1 p0.length c1) (by kernel_rfl) (fun _ => by kernel_rfl) ?_
   refine T.pure (.int .i64 (p0.length : Int)) (by kernel_rfl) (fun _ => by kernel_rfl) ?_
   refine T.pure (.int .i64 0) (by kernel_rfl) (fun _ => by kernel_rfl) ?_
   refine T.nil ?_
   refine T.rownil 28 eElem ?_
   obtain ⟨z1, hz1, hF⟩ := Option.bind_eq_some_iff.1 hF
   refine T.mid (fun a w' => ∃ (A4 : Option Addr) (c4 : Nat) (V4 : View), View.le V2 V4 ∧ Fr 36 [(8, .slice A4 z1.length c4)] a ∧ Hp w V4 [row 28 eElem A4 c4 z1] w') ?_ ?_
   ·
    refine T.block ?_
    refine T.iter (fun s1 a w' => ∃ (x1 : List DElem) (x2 : Int), s1 = (x1, x2) ∧ ∃ (A3 : Option Addr) (c3 : Nat) (V3 : View), View.le V2 V3 ∧ Fr 36 [(1, .slice A2 p1.length c2), (8, .slice A3 x1.length c3), (21, .slice A1 p0.length c1), (22, .int .i64 (p0.length : Int)), (23, .int .i64 x2)] a ∧ Hp w V3 [row 28 eElem A3 c3 x1] w') hz1 ?_ ?_
    ·
     exact fun a w' hf hh => Exists.intro [] (Exists.intro 0 (And.intro rfl (Exists.intro none (Exists.intro 0 (Exists.intro V2 (And.intro (View.le_refl _) (And.intro ((((((Fr.nil hf).pick hf 23 rfl).pick hf 22 rfl).pick hf 21 rfl).pick hf 8 rfl).pick hf 1 rfl) (hh.sub (.cons_cons _ List.Sublist.slnil)))))))))
    ·
     rintro s1 y1 hY1 hr1 a w' ⟨x1, x2, rfl, A3, c3, V3, hV3, hf, hh⟩
     refine (?_ : T 36 w V3 [row 28 eElem A3 c3 x1] [(1, .slice A2 p1.length c2), (8, .slice A3 x1.length c3), (21, .slice A1 p0.length c1), (22, .int .i64 (p0.length : Int)), (23, .int .i64 x2)] _) a w' hf hh
     clear hf hh
     try dsimp only at hY1
     refine T.seq ?_
     refine T.region ?_
     refine T.pure (.bool (decide (x2 < (p0.length : Int)))) (by kernel_rfl) (fun _ => by kernel_rfl) ?_
     refine T.nil ?_
     refine T.seq ?_
     refine T.cond (decide (x2 < (p0.length : Int))) (by kernel_rfl) (by kernel_rfl) (fun hc3 => ?_) (fun hc3 => ?_)
     ·
      rw [hc3, cond_true] at hY1
      refine T.skip_code ?_
      obtain ⟨z2, hX1, hY1⟩ := Option.bind_eq_some_iff.1 hY1
      refine T.cut (fun a w' => ∃ (A5 : Option Addr) (c5 : Nat) (V5 : View), View.le V3 V5 ∧ Fr 36 [(1, .slice A2 p1.length c2), (8, .slice A5 z2.length c5), (21, .slice A1 p0.length c1), (22, .int .i64 (p0.length : Int)), (23, .int .i64 x2)] a ∧ Hp w V5 [row 28 eElem A5 c5 z2] w') ?_ ?_
      ·
       refine T.block ?_
       refine T.seq ?_
       refine T.region ?_
       obtain ⟨e1, hb3, hX1⟩ := Option.bind_eq_some_iff.1 hX1
       obtain ⟨hi1, hi2, hi3⟩ := idx_some hb3
       refine T.look (.pointer (some ((sadr A1).add (x2.toNat * 6)))) (by kernel_rfl) (fun w' hh => exec_indexAddr (e := 28) (s := 6) rfl rfl rfl (by kernel_rfl) (by kernel_rfl) hi1 hi2 ((SlOk.mono hs1 (View.le_trans (View.le_trans hV1 hV2) hV3)).some_ hi3 (by decide))) ?_
       refine T.look (.agg #[.int .i64 e1.key.pfs, .int .i64 e1.key.obj, .int .i64 e1.key.off, .int .i64 e1.made, .int .i64 e1.gone, .string e1.val]) (by kernel_rfl) (fun w' hh => exec_loadN (cs := [.int .i64 e1.key.pfs, .int .i64 e1.key.obj, .int .i64 e1.key.off, .int .i64 e1.made, .int .i64 e1.gone, .string e1.val]) rfl rfl (by kernel_rfl) (by kernel_rfl) (fun j u hj => (hh.cell_view (SlOk.cellF (E := eElem) (SlOk.mono hs1 (View.le_trans (View.le_trans hV1 hV2) hV3)) hi3 j (fun _ _ _ h => h) hj)))) ?_
       refine T.step (W1.new 28 [.int .i64 0, .int .i64 0, .int .i64 0, .int .i64 0, .int .i64 0, .string (ByteArray.mk #[])] (fun b => .pointer (some ⟨b, 0, none⟩)) (by kernel_rfl) (fun _ => by kernel_rfl) (fun b1 => ?_))
       refine T.step (W1.store 0 [.int .i64 e1.key.pfs, .int .i64 e1.key.obj, .int .i64 e1.key.off, .int .i64 e1.made, .int .i64 e1.gone, .string e1.val] [box b1 28 [.int .i64 e1.key.pfs, .int .i64 e1.key.obj, .int .i64 e1.key.off, .int .i64 e1.made, .int .i64 e1.gone, .string e1.val], row 28 eElem A3 c3 x1] (by rfl) rfl (by kernel_rfl) (fun w' hw => exec_store (vs := [.int .i64 e1.key.pfs, .int .i64 e1.key.obj, .int .i64 e1.key.off, .int .i64 e1.made, .int .i64 e1.gone, .string e1.val]) rfl rfl rfl rfl (by kernel_rfl) (one_of rfl) (by simp) rfl hw) ?_)
       refine T.nil ?_
       refine T.seq ?_
       refine T.region ?_
       refine T.look (.agg #[.int .i64 e1.key.pfs, .int .i64 e1.key.obj, .int .i64 e1.key.off, .int .i64 e1.made, .int .i64 e1.gone, .string e1.val]) (by kernel_rfl) (fun w' hh => exec_loadN (cs := [.int .i64 e1.key.pfs, .int .i64 e1.key.obj, .int .i64 e1.key.off, .int .i64 e1.made, .int .i64 e1.gone, .string e1.val]) rfl rfl (by kernel_rfl) (by kernel_rfl) (fun j u hj => (hh.box_at (i := 0) (cs := [.int .i64 e1.key.pfs, .int .i64 e1.key.obj, .int .i64 e1.key.off, .int .i64 e1.made, .int .i64 e1.gone, .string e1.val]) (by rfl) 0 j).trans (seg_at (n := 6) (by rfl) hj))) ?_
       refine T.pure (.slice A2 p1.length c2) (by kernel_rfl) (fun _ => by kernel_rfl) ?_
       obtain ⟨r6, hb4, hX1⟩ := Option.bind_eq_some_iff.1 hX1
       refine T.step (W1.call (vSc eBool) r6 23 #[.agg #[.int .i64 e1.key.pfs, .int .i64 e1.key.obj, .int .i64 e1.key.off, .int .i64 e1.made, .int .i64 e1.gone, .string e1.val], .slice A2 p1.length c2] (by kernel_rfl) (fun _ => by kernel_rfl) (fun w' hh => prune_stays_l F e1 p1 r6 hb4 w' A2 c2 (SlOk.mono (SlOk.mono hs2 (View.le_trans (View.le_trans hV1 hV2) hV3)) hh.view)) ?_)
       intro u V6 hV6 hu
       obtain rfl := sureBool _ _ _ hu
       refine T.nil ?_
       refine T.cond r6 (by kernel_rfl) (by kernel_rfl) (fun hc4 => ?_) (fun hc4 => ?_)
       ·
        rw [hc4, cond_true] at hX1
        refine T.region ?_
        refine T.pure (.slice A3 x1.length c3) (by kernel_rfl) (fun _ => by kernel_rfl) ?_
        refine T.look (.agg #[.int .i64 e1.key.pfs, .int .i64 e1.key.obj, .int .i64 e1.key.off, .int .i64 e1.made, .int .i64 e1.gone, .string e1.val]) (by kernel_rfl) (fun w' hh => exec_loadN (cs := [.int .i64 e1.key.pfs, .int .i64 e1.key.obj, .int .i64 e1.key.off, .int .i64 e1.made, .int .i64 e1.gone, .string e1.val]) rfl rfl (by kernel_rfl) (by kernel_rfl) (fun j u hj => (hh.box_at (i := 0) (cs := [.int .i64 e1.key.pfs, .int .i64 e1.key.obj, .int .i64 e1.key.off, .int .i64 e1.made, .int .i64 e1.gone, .string e1.val]) (by rfl) 0 j).trans (seg_at (n := 6) (by rfl) hj))) ?_
        refine T.step (W1.new 28 [.int .i64 e1.key.pfs, .int .i64 e1.key.obj, .int .i64 e1.key.off, .int .i64 e1.made, .int .i64 e1.gone, .string e1.val] (fun b => .slice (some ⟨b, 0, none⟩) 1 1) (by kernel_rfl) (fun _ => by kernel_rfl) (fun b2 => ?_))
        obtain ⟨y2, hb5, hX1⟩ := Option.bind_eq_some_iff.1 hX1
        obtain ⟨hb5_r, hb5_m, rfl⟩ := grow_some hb5
        obtain ⟨ti, hti, hz1, hz2, hz3⟩ := info_parts (P := Try.prog) (e := 28) (z := .agg #[.int .i64 0, .int .i64 0, .int .i64 0, .int .i64 0, .int .i64 0, .string (ByteArray.mk #[])]) (size := 6) (bytes := 56) (by kernel_rfl)
        refine T.step (W1.append (E := eElem) (l := x1) (m := [e1]) 2 _ _ 56 ti _ (by rfl) (by kernel_rfl) rfl (by kernel_rfl) hti hz1 hz2 hz3 rfl (by decide) rfl rfl (fun w' hh => (SlOk.srcF (slok_lit (E := eElem) (f := DElem.cells) [e1] (fun _ _ => rfl) (Nat.le_of_ble_eq_true (by rfl)) (fun j => hh.cellBox (i := 0) (by rfl) j)) (fun _ _ _ _ h => h))) hb5_r hb5_m (fun A6 c6 => ?_))
        refine T.pure (.slice A6 ((x1 ++ [e1]).length) c6) (by kernel_rfl) (fun _ => by kernel_rfl) ?_
        refine T.nil ?_
        cases hX1
        exact fun a w' hf hh => Exists.intro A6 (Exists.intro c6 (Exists.intro V6 (And.intro hV6 (And.intro ((((((Fr.nil hf).pick hf 23 rfl).pick hf 22 rfl).pick hf 21 rfl).pick hf 8 rfl).pick hf 1 rfl) (hh.sub (.cons _ (.cons _ (.cons_cons _ List.Sublist.slnil))))))))
       ·
        rw [hc4, cond_false] at hX1
        refine T.skip_code ?_
        cases hX1
        exact fun a w' hf hh => Exists.intro A3 (Exists.intro c3 (Exists.intro V6 (And.intro hV6 (And.intro ((((((Fr.nil hf).pick hf 23 rfl).pick hf 22 rfl).pick hf 21 rfl).pick hf 8 rfl).pick hf 1 rfl) (hh.sub (.cons _ (.cons_cons _ List.Sublist.slnil)))))))
      ·
       rintro a w' ⟨A5, c5, V5, hV5, hf, hh⟩
       refine (?_ : T 36 w V5 [row 28 eElem A5 c5 z2] [(1, .slice A2 p1.length c2), (8, .slice A5 z2.length c5), (21, .slice A1 p0.length c1), (22, .int .i64 (p0.length : Int)), (23, .int .i64 x2)] _) a w' hf hh
       clear hf hh
       refine T.region ?_
       refine T.pure (.int .i64 (IntKind.i64.wrap (x2 + 1))) (by kernel_rfl) (fun _ => by kernel_rfl) ?_
       refine T.pure (.int .i64 (IntKind.i64.wrap (x2 + 1))) (by kernel_rfl) (fun _ => by kernel_rfl) ?_
       refine T.nil ?_
       cases hY1
       exact fun a w' hf hh => Exists.intro (z2, IntKind.i64.wrap (x2 + 1)) (And.intro rfl (Exists.intro z2 (Exists.intro (IntKind.i64.wrap (x2 + 1)) (And.intro rfl (Exists.intro A5 (Exists.intro c5 (Exists.intro V5 (And.intro (View.le_trans hV3 hV5) (And.intro ((((((Fr.nil hf).pick hf 23 rfl).pick hf 22 rfl).pick hf 21 rfl).pick hf 8 rfl).pick hf 1 rfl) (hh.sub (.cons_cons _ List.Sublist.slnil)))))))))))
     ·
      rw [hc3, cond_false] at hY1
      refine T.exit ?_
      cases hY1
      cases (hr1 _ rfl)
      exact fun a w' hf hh => Exists.intro A3 (Exists.intro c3 (Exists.intro V3 (And.intro hV3 (And.intro ((Fr.nil hf).pick hf 8 rfl) (hh.sub (.cons_cons _ List.Sublist.slnil))))))
   ·
    rintro a w' ⟨A4, c4, V4, hV4, hf, hh⟩
    refine (?_ : T 36 w V4 [row 28 eElem A4 c4 z1] [(8, .slice A4 z1.length c4)] _) a w' hf hh
    clear hf hh
    refine T.seq ?_
    refine T.region ?_
    refine T.pure (.slice A4 z1.length c4) (by kernel_rfl) (fun _ => by kernel_rfl) ?_
    refine T.pure (.slice A4 z1.length c4) (by kernel_rfl) (fun _ => by kernel_rfl) ?_
    refine T.pure (.int .i64 0) (by kernel_rfl) (fun _ => by kernel_rfl) ?_
    refine T.nil ?_
    cases hF
    refine T.ret rfl ?_
    exact T.ret2 rfl (ResIs.tmp rfl) (ResIs.tmp rfl) fun w' hh => ⟨(A4, c4), rfl, trivial, gives_of (hh.sub (.cons_cons _ List.Sublist.slnil)) ⟨flat_row (fun _ _ _ _ h => h), trivial⟩⟩

end Go.Proofs.Ytaodaihoglcinaa
