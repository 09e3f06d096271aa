/- The Go functions of group Tree compute the pure functions of that group: written by walkgen.py. Condition of each: the pure function yields a result. -/
import Derived.Test.YtcmkdoahkncakaaNodeLJ
import Derived.Test.YtcmkdoahkncakaaRangeJ
import Derived.Test.YtcmkdoahkncakaaClearJ
import Derived.Test.YtcmkdoahkncakaaTreeFJ
import Derived.Test.YtcmkdoahkncakaaEqLJ
namespace Go.Proofs.Ytcmkdoahkncakaa
set_option linter.unusedVariables false

set_option maxRecDepth 100000 in
set_option maxHeartbeats 4000000 in
theorem tree_Check_l (F : Nat) (p0 : DTree) (r : Int) (hF : tree_Check F p0 = some r) (w : World) (A1 : Option Addr) (c1 : Nat) (hs1 : SlOk (vw w) eNode A1 c1 p0.nodes) :
    Calls Try.prog 47 #[.agg #[.int .i64 p0.root, .slice A1 p0.nodes.length c1]] w (Post (vSc eInt) r w) := by
 unfold tree_Check at hF
 refine T.start (l := [.agg #[.int .i64 p0.root, .slice A1 p0.nodes.length c1]]) Try.func47 rfl rfl rfl ?_
 refine T.seq ?_
 refine T.region ?_
 refine T.step (W1.new 24 [.int .i64 p0.root, .slice A1 p0.nodes.length c1] (fun b => .pointer (some ⟨b, 0, none⟩)) (by kernel_rfl) (fun _ => by kernel_rfl) (fun b1 => ?_))
 refine T.pure (.int .i64 0) (by kernel_rfl) (fun _ => by kernel_rfl) ?_
 refine T.nil ?_
 refine T.seq ?_
 refine T.seq ?_
 refine T.region ?_
 refine T.pure (.pointer (some ⟨b1, 1, none⟩)) (by kernel_rfl) (fun _ => by kernel_rfl) ?_
 refine T.look (.slice A1 p0.nodes.length c1) (by kernel_rfl) (fun w' hh => exec_load1 rfl rfl (by kernel_rfl) (hh.cellBox (i := 0) (by rfl) 1)) ?_
 refine T.pure (.int .i64 (p0.nodes.length : Int)) (by kernel_rfl) (fun _ => by kernel_rfl) ?_
 refine T.pure (.bool (decide ((400 : Int) < (p0.nodes.length : Int)))) (by kernel_rfl) (fun _ => by kernel_rfl) ?_
 refine T.nil ?_
 refine T.cond (decide ((400 : Int) < (p0.nodes.length : Int))) (by kernel_rfl) (by kernel_rfl) (fun hc1 => ?_) (fun hc1 => ?_)
 ·
  rw [hc1, cond_true] at hF
  refine T.seq ?_
  refine T.region ?_
  refine T.pure (.int .i64 2) (by kernel_rfl) (fun _ => by kernel_rfl) ?_
  refine T.nil ?_
  cases hF
  refine T.ret rfl ?_
  exact T.ret1 rfl (ResIs.tmp rfl) fun w' hh => ⟨_, rfl, hh.below, (show _ from rfl)⟩
 ·
  rw [hc1, cond_false] at hF
  refine T.skip_code ?_
  refine T.seq ?_
  refine T.seq ?_
  refine T.region ?_
  refine T.pure (.pointer (some ⟨b1, 1, none⟩)) (by kernel_rfl) (fun _ => by kernel_rfl) ?_
  refine T.look (.slice A1 p0.nodes.length c1) (by kernel_rfl) (fun w' hh => exec_load1 rfl rfl (by kernel_rfl) (hh.cellBox (i := 0) (by rfl) 1)) ?_
  refine T.pure (.int .i64 (p0.nodes.length : Int)) (by kernel_rfl) (fun _ => by kernel_rfl) ?_
  refine T.pure (.int .i64 0) (by kernel_rfl) (fun _ => by kernel_rfl) ?_
  refine T.nil ?_
  obtain ⟨q1, hz1, hF⟩ := Option.bind_eq_some_iff.1 hF
  refine T.mid (fun a w' => q1 = Sum.inl () ∧ ∃ (V2 : View), View.le (vw w) V2 ∧ Fr 66 [(1, .pointer (some ⟨b1, 0, none⟩))] a ∧ Hp w V2 [box b1 24 [.int .i64 p0.root, .slice A1 p0.nodes.length c1]] w') ?_ ?_
  ·
   refine T.block ?_
   refine T.iter (fun x1 a w' => ∃ (V1 : View), View.le (vw w) V1 ∧ Fr 66 [(1, .pointer (some ⟨b1, 0, none⟩)), (14, .slice A1 p0.nodes.length c1), (15, .int .i64 (p0.nodes.length : Int)), (16, .int .i64 x1)] a ∧ Hp w V1 [box b1 24 [.int .i64 p0.root, .slice A1 p0.nodes.length c1]] w') hz1 ?_ ?_
   ·
    exact fun a w' hf hh => Exists.intro (vw w) (And.intro (View.le_refl _) (And.intro (((((Fr.nil hf).pick hf 16 rfl).pick hf 15 rfl).pick hf 14 rfl).pick hf 1 rfl) (hh.sub (.cons_cons _ List.Sublist.slnil))))
   ·
    rintro x1 y1 hY1 hr1 a w' ⟨V1, hV1, hf, hh⟩
    refine (?_ : T 66 w V1 [box b1 24 [.int .i64 p0.root, .slice A1 p0.nodes.length c1]] [(1, .pointer (some ⟨b1, 0, none⟩)), (14, .slice A1 p0.nodes.length c1), (15, .int .i64 (p0.nodes.length : Int)), (16, .int .i64 x1)] _) a w' hf hh
    clear hf hh
    try dsimp only at hY1
    refine T.seq ?_
    refine T.region ?_
    refine T.pure (.bool (decide (x1 < (p0.nodes.length : Int)))) (by kernel_rfl) (fun _ => by kernel_rfl) ?_
    refine T.nil ?_
    refine T.seq ?_
    refine T.cond (decide (x1 < (p0.nodes.length : Int))) (by kernel_rfl) (by kernel_rfl) (fun hc2 => ?_) (fun hc2 => ?_)
    ·
     rw [hc2, cond_true] at hY1
     refine T.skip_code ?_
     refine T.seq ?_
     refine T.block ?_
     refine T.seq ?_
     refine T.region ?_
     obtain ⟨e1, hb1, hY1⟩ := Option.bind_eq_some_iff.1 hY1
     obtain ⟨hi1, hi2, hi3⟩ := idx_some hb1
     obtain ⟨cs1, hr2, hc3⟩ := SlOk.elem (SlOk.mono hs1 hV1) hi3
     obtain ⟨A2, c2, A3, c3, A4, c4, A5, c5, rfl, hs2, hs3, hs4, hs5⟩ := hr2
     refine T.look (.pointer (some ((sadr A1).add (x1.toNat * 5)))) (by kernel_rfl) (fun w' hh => exec_indexAddr (e := 97) (s := 5) rfl rfl rfl (by kernel_rfl) (by kernel_rfl) hi1 hi2 ((SlOk.mono hs1 hV1).some_ hi3 (by decide))) ?_
     refine T.look (.agg #[.int .i64 e1.kind, .slice A2 e1.elems.length c2, .slice A3 e1.kids.length c3, .slice A4 e1.seps.length c4, .slice A5 e1.tids.length c5]) (by kernel_rfl) (fun w' hh => exec_loadN (cs := [.int .i64 e1.kind, .slice A2 e1.elems.length c2, .slice A3 e1.kids.length c3, .slice A4 e1.seps.length c4, .slice A5 e1.tids.length c5]) rfl rfl (by kernel_rfl) (by kernel_rfl) (fun j u hj => hh.cell_view (View.cell_mono (View.le_refl _) (hc3 j u hj).2))) ?_
     refine T.step (W1.new 97 [.int .i64 0, .slice none 0 0, .slice none 0 0, .slice none 0 0, .slice none 0 0] (fun b => .pointer (some ⟨b, 0, none⟩)) (by kernel_rfl) (fun _ => by kernel_rfl) (fun b2 => ?_))
     refine T.step (W1.store 0 [.int .i64 e1.kind, .slice A2 e1.elems.length c2, .slice A3 e1.kids.length c3, .slice A4 e1.seps.length c4, .slice A5 e1.tids.length c5] [box b2 97 [.int .i64 e1.kind, .slice A2 e1.elems.length c2, .slice A3 e1.kids.length c3, .slice A4 e1.seps.length c4, .slice A5 e1.tids.length c5], box b1 24 [.int .i64 p0.root, .slice A1 p0.nodes.length c1]] (by rfl) rfl (by kernel_rfl) (fun w' hw => exec_store (vs := [.int .i64 e1.kind, .slice A2 e1.elems.length c2, .slice A3 e1.kids.length c3, .slice A4 e1.seps.length c4, .slice A5 e1.tids.length c5]) rfl rfl rfl rfl (by kernel_rfl) (one_of rfl) (by simp) rfl hw) ?_)
     refine T.nil ?_
     refine T.seq ?_
     refine T.region ?_
     refine T.look (.agg #[.int .i64 e1.kind, .slice A2 e1.elems.length c2, .slice A3 e1.kids.length c3, .slice A4 e1.seps.length c4, .slice A5 e1.tids.length c5]) (by kernel_rfl) (fun w' hh => exec_loadN (cs := [.int .i64 e1.kind, .slice A2 e1.elems.length c2, .slice A3 e1.kids.length c3, .slice A4 e1.seps.length c4, .slice A5 e1.tids.length c5]) rfl rfl (by kernel_rfl) (by kernel_rfl) (fun j u hj => (hh.box_at (i := 0) (cs := [.int .i64 e1.kind, .slice A2 e1.elems.length c2, .slice A3 e1.kids.length c3, .slice A4 e1.seps.length c4, .slice A5 e1.tids.length c5]) (by rfl) 0 j).trans (seg_at (n := 5) (by rfl) hj))) ?_
     obtain ⟨r1, hb2, hY1⟩ := Option.bind_eq_some_iff.1 hY1
     refine T.step (W1.call (vSc eInt) r1 73 #[.agg #[.int .i64 e1.kind, .slice A2 e1.elems.length c2, .slice A3 e1.kids.length c3, .slice A4 e1.seps.length c4, .slice A5 e1.tids.length c5]] (by kernel_rfl) (fun _ => by kernel_rfl) (fun w' hh => node_Check_l F e1 r1 hb2 w' A2 c2 (SlOk.mono hs2 hh.view) A3 c3 (SlOk.mono hs3 hh.view) A4 c4 (SlOk.mono hs4 hh.view) A5 c5 (SlOk.mono hs5 hh.view)) ?_)
     intro u V3 hV3 hu
     obtain rfl := sureInt _ _ _ hu
     refine T.pure (.int .i64 r1) (by kernel_rfl) (fun _ => by kernel_rfl) ?_
     refine T.nil ?_
     refine T.seq ?_
     refine T.region ?_
     refine T.pure (.int .i64 r1) (by kernel_rfl) (fun _ => by kernel_rfl) ?_
     refine T.pure (.bool (r1 != 0)) (by kernel_rfl) (fun _ => by kernel_rfl) ?_
     refine T.nil ?_
     refine T.cond (r1 != 0) (by kernel_rfl) (by kernel_rfl) (fun hc4 => ?_) (fun hc4 => ?_)
     ·
      rw [hc4, cond_true] at hY1
      refine T.seq ?_
      refine T.region ?_
      refine T.pure (.int .i64 r1) (by kernel_rfl) (fun _ => by kernel_rfl) ?_
      refine T.pure (.int .i64 r1) (by kernel_rfl) (fun _ => by kernel_rfl) ?_
      refine T.nil ?_
      cases hY1
      cases (hr1 _ rfl)
      try dsimp only at hF
      cases hF
      refine T.ret rfl ?_
      exact T.ret1 rfl (ResIs.tmp rfl) fun w' hh => ⟨_, rfl, hh.below, (show _ from rfl)⟩
     ·
      rw [hc4, cond_false] at hY1
      refine T.skip_code ?_
      refine T.region ?_
      refine T.pure (.int .i64 (IntKind.i64.wrap (x1 + 1))) (by kernel_rfl) (fun _ => by kernel_rfl) ?_
      refine T.pure (.int .i64 (IntKind.i64.wrap (x1 + 1))) (by kernel_rfl) (fun _ => by kernel_rfl) ?_
      refine T.nil ?_
      cases hY1
      exact fun a w' hf hh => Exists.intro (IntKind.i64.wrap (x1 + 1)) (And.intro rfl (Exists.intro V3 (And.intro (View.le_trans hV1 hV3) (And.intro (((((Fr.nil hf).pick hf 16 rfl).pick hf 15 rfl).pick hf 14 rfl).pick hf 1 rfl) (hh.sub (.cons _ (.cons_cons _ List.Sublist.slnil)))))))
    ·
     rw [hc2, cond_false] at hY1
     refine T.exit ?_
     cases hY1
     cases (hr1 _ rfl)
     exact fun a w' hf hh => And.intro rfl (Exists.intro V1 (And.intro hV1 (And.intro ((Fr.nil hf).pick hf 1 rfl) (hh.sub (.cons_cons _ List.Sublist.slnil)))))
  ·
   rintro a w' ⟨rfl, V2, hV2, hf, hh⟩
   try dsimp only at hF
   refine (?_ : T 66 w V2 [box b1 24 [.int .i64 p0.root, .slice A1 p0.nodes.length c1]] [(1, .pointer (some ⟨b1, 0, none⟩))] _) a w' hf hh
   clear hf hh
   refine T.seq ?_
   refine T.held [box b1 24 [.int .i64 p0.root, .slice A1 p0.nodes.length c1]] (by kernel_rfl) ?_
   refine TA.take 0 (.agg #[.int .i64 p0.root, .slice A1 p0.nodes.length c1]) rfl (by kernel_rfl) (by kernel_rfl) (by kernel_rfl) (fun _ _ _ h => h) (Hp.old (View.le_refl _) hV2 (.cons_cons _ List.Sublist.slnil) (OldAll.box OldAll.nil)) (by kernel_rfl) (fun w' hh => exec_loadN (cs := [.int .i64 p0.root, .slice A1 p0.nodes.length c1]) rfl rfl (by kernel_rfl) (by kernel_rfl) (fun j u hj => (hh.box_at (i := 0) (cs := [.int .i64 p0.root, .slice A1 p0.nodes.length c1]) (by rfl) 0 j).trans (seg_at (n := 2) (by rfl) hj))) ?_
   refine TA.take 1 (.pointer (some ⟨b1, 1, none⟩)) rfl (by kernel_rfl) (by kernel_rfl) (by kernel_rfl) (fun _ _ _ h => h) (Hp.old (View.le_refl _) hV2 (.cons_cons _ List.Sublist.slnil) (OldAll.box OldAll.nil)) (by kernel_rfl) (fun _ _ => by kernel_rfl) ?_
   refine TA.take 2 (.slice A1 p0.nodes.length c1) rfl (by kernel_rfl) (by kernel_rfl) (by kernel_rfl) (fun _ _ _ h => h) (Hp.old (View.le_refl _) hV2 (.cons_cons _ List.Sublist.slnil) (OldAll.box OldAll.nil)) (by kernel_rfl) (fun w' hh => exec_load1 rfl rfl (by kernel_rfl) (hh.cellBox (i := 0) (by rfl) 1)) ?_
   refine TA.take 3 (.int .i64 (p0.nodes.length : Int)) rfl (by kernel_rfl) (by kernel_rfl) (by kernel_rfl) (fun _ _ _ h => h) (Hp.old (View.le_refl _) hV2 (.cons_cons _ List.Sublist.slnil) (OldAll.box OldAll.nil)) (by kernel_rfl) (fun _ _ => by kernel_rfl) ?_
   refine TA.all [4] (by kernel_rfl) rfl ⟨?_, trivial⟩
   obtain ⟨u1, hb3, hF⟩ := Option.bind_eq_some_iff.1 hF
   obtain ⟨ti, hti, hz1, hz2, hz3⟩ := info_parts (P := Try.prog) (e := 4) (z := .bool false) (size := 1) (bytes := 1) (by kernel_rfl)
   obtain ⟨hb3_n, hb3_r, hb3_m⟩ := makes_some hb3
   refine TA.br rfl (W1.make (E := eBool) ((p0.nodes.length : Int).toNat) (false : Bool) _ _ .i64 .i64 1 ti _ (by kernel_rfl) rfl (by kernel_rfl) hti hz1 hz2 hz3 (congrArg (Value.int _) hb3_n.symm) (congrArg (Value.int _) hb3_n.symm) (fun _ => rfl) rfl hb3_r hb3_m (fun A6 => ?_))
   refine TA.on (Hp.old (View.le_refl _) hV2 (.cons _ (.cons_cons _ List.Sublist.slnil)) (OldAll.box OldAll.nil)) ?_
   refine TA.take 5 (.agg #[.int .i64 p0.root, .slice A1 p0.nodes.length c1, .slice A6 ((List.replicate ((p0.nodes.length : Int).toNat) (false : Bool)).length) ((p0.nodes.length : Int).toNat), .int .i64 (-1), .int .i64 0]) rfl (by kernel_rfl) (by kernel_rfl) (by kernel_rfl) (fun _ _ _ h => h) (Hp.old (View.le_refl _) hV2 (.cons _ (.cons_cons _ List.Sublist.slnil)) (OldAll.box OldAll.nil)) (by kernel_rfl) (fun _ _ => by kernel_rfl) ?_
   refine TA.all [6] (by kernel_rfl) rfl ⟨?_, trivial⟩
   refine TA.br rfl (W1.new 128 [.int .i64 p0.root, .slice A1 p0.nodes.length c1, .slice A6 ((List.replicate ((p0.nodes.length : Int).toNat) (false : Bool)).length) ((p0.nodes.length : Int).toNat), .int .i64 (-1), .int .i64 0] (fun b => .pointer (some ⟨b, 0, none⟩)) (by kernel_rfl) (fun _ => by kernel_rfl) (fun b3 => ?_))
   refine TA.on (Hp.old (View.le_refl _) hV2 (.cons _ (.cons _ (.cons_cons _ List.Sublist.slnil))) (OldAll.box OldAll.nil)) ?_
   refine TA.take 7 (.pointer (some ⟨b3, 0, none⟩)) rfl (by kernel_rfl) (by kernel_rfl) (by kernel_rfl) (fun _ _ _ h => h) (Hp.old (View.le_refl _) hV2 (.cons _ (.cons _ (.cons_cons _ List.Sublist.slnil))) (OldAll.box OldAll.nil)) (by kernel_rfl) (fun _ _ => by kernel_rfl) ?_
   refine TA.done (by kernel_rfl) ?_
   refine T.seq ?_
   refine T.region ?_
   refine T.pure (.pointer (some ⟨b3, 0, none⟩)) (by kernel_rfl) (fun _ => by kernel_rfl) ?_
   refine T.pure (.pointer (some ⟨b1, 0, none⟩)) (by kernel_rfl) (fun _ => by kernel_rfl) ?_
   refine T.look (.int .i64 p0.root) (by kernel_rfl) (fun w' hh => exec_load1 rfl rfl (by kernel_rfl) (hh.cellBox (i := 2) (by rfl) 0)) ?_
   refine T.pure (.agg #[.int .i64 0, .int .i64 0, .int .i64 0, .int .i64 0, .int .i64 0, .int .i64 0, .int .i64 0, .int .i64 0, .bool false, .bool false]) (by kernel_rfl) (fun _ => by kernel_rfl) ?_
   obtain ⟨q2, hz2, hF⟩ := Option.bind_eq_some_iff.1 hF
   refine (have hq1 := fix_rec (fun (s_ : (List Bool) × Int × Int × Int × Int × Int × Int × Int × Int × Int × Int × Int × Int × Bool × Bool) (r_ : (List Bool) × Int × Int × Int) => ∀ (x2 : List Bool) (x3 : Int) (x4 : Int) (x5 : Int) (x6 : Int) (x7 : Int) (x8 : Int) (x9 : Int) (x10 : Int) (x11 : Int) (x12 : Int) (x13 : Int) (x14 : Int) (x15 : Bool) (x16 : Bool), s_ = (x2, x3, x4, x5, x6, x7, x8, x9, x10, x11, x12, x13, x14, x15, x16) → ∀ (V4 : View) (G1 : List HObj) (w1 : World), View.le V2 V4 → Hp w V4 ((box b3 128 [.int .i64 p0.root, .slice A1 p0.nodes.length c1, .slice A6 x2.length ((p0.nodes.length : Int).toNat), .int .i64 x3, .int .i64 x4]) :: (row 4 eBool A6 ((p0.nodes.length : Int).toNat) x2) :: G1) w1 → Calls Try.prog 74 #[.pointer (some ⟨b3, 0, none⟩), .int .i64 x5, .int .i64 x6, .agg #[.int .i64 x7, .int .i64 x8, .int .i64 x9, .int .i64 x10, .int .i64 x11, .int .i64 x12, .int .i64 x13, .int .i64 x14, .bool x15, .bool x16]] w1 (fun e w2 => ∃ v, e = .returned v ∧ ∃ (z1 : List Bool) (z2 : Int) (z3 : Int) (z4 : Int), r_ = (z1, z2, z3, z4) ∧ ∃ (V5 : View), View.le V4 V5 ∧ v = .int .i64 z4 ∧ Hp w V5 ((box b3 128 [.int .i64 p0.root, .slice A1 p0.nodes.length c1, .slice A6 z1.length ((p0.nodes.length : Int).toNat), .int .i64 z2, .int .i64 z3]) :: (row 4 eBool A6 ((p0.nodes.length : Int).toNat) z1) :: G1) w2)) hz2 ?_; ?_)
   ·
    rintro rf1 ih1 s_ r_ hS1 x2 x3 x4 x5 x6 x7 x8 x9 x10 x11 x12 x13 x14 x15 x16 rfl V4 G1 w1 hV4 hh
    try dsimp only at hS1
    refine T.startI (l := [.pointer (some ⟨b3, 0, none⟩), .int .i64 x5, .int .i64 x6, .agg #[.int .i64 x7, .int .i64 x8, .int .i64 x9, .int .i64 x10, .int .i64 x11, .int .i64 x12, .int .i64 x13, .int .i64 x14, .bool x15, .bool x16]]) Try.func74 rfl rfl rfl ?_ hh
    clear hh
    refine T.seq ?_
    refine T.region ?_
    refine T.step (W1.new 131 [.int .i64 x7, .int .i64 x8, .int .i64 x9, .int .i64 x10, .int .i64 x11, .int .i64 x12, .int .i64 x13, .int .i64 x14, .bool x15, .bool x16] (fun b => .pointer (some ⟨b, 0, none⟩)) (by kernel_rfl) (fun _ => by kernel_rfl) (fun b4 => ?_))
    refine T.pure (.int .i64 0) (by kernel_rfl) (fun _ => by kernel_rfl) ?_
    refine T.nil ?_
    refine T.seq ?_
    refine T.seq ?_
    refine T.region ?_
    refine T.pure (.pointer (some ⟨b3, 0, none⟩)) (by kernel_rfl) (fun _ => by kernel_rfl) ?_
    refine T.pure (.pointer (some ⟨b3, 0, none⟩)) (by kernel_rfl) (fun _ => by kernel_rfl) ?_
    refine T.pure (.pointer (some ⟨b3, 4, none⟩)) (by kernel_rfl) (fun _ => by kernel_rfl) ?_
    refine T.look (.int .i64 x4) (by kernel_rfl) (fun w' hh => exec_load1 rfl rfl (by kernel_rfl) (hh.cellBox (i := 1) (by rfl) 4)) ?_
    refine T.pure (.bool (x4 != 0)) (by kernel_rfl) (fun _ => by kernel_rfl) ?_
    refine T.nil ?_
    refine T.cond (x4 != 0) (by kernel_rfl) (by kernel_rfl) (fun hc5 => ?_) (fun hc5 => ?_)
    ·
     rw [hc5, cond_true] at hS1
     refine T.seq ?_
     refine T.region ?_
     refine T.pure (.int .i64 0) (by kernel_rfl) (fun _ => by kernel_rfl) ?_
     refine T.nil ?_
     have hres := Option.some.inj hS1
     subst hres
     refine T.ret rfl ?_
     repeat first | refine T.unthen ?_ | refine T.unblock ?_
     exact T.ret1 rfl (ResIs.tmp rfl) fun w' hh => ⟨_, rfl, Exists.intro x2 (Exists.intro x3 (Exists.intro x4 (Exists.intro 0 (And.intro rfl (Exists.intro V4 (And.intro (View.le_refl _) (And.intro rfl (hh.sub (.cons _ (.cons_cons _ (.cons_cons _ (List.Sublist.refl _))))))))))))⟩
    ·
     rw [hc5, cond_false] at hS1
     refine T.skip_code ?_
     refine T.seq ?_
     obtain ⟨z5, hX1, hS1⟩ := Option.bind_eq_some_iff.1 hS1
     refine T.cut (fun a w' => Fr 175 [(0, .pointer (some ⟨b3, 0, none⟩)), (1, .int .i64 x5), (2, .int .i64 x6), (7, .pointer (some ⟨b4, 0, none⟩)), (52, .bool z5)] a ∧ Hp w V4 ((box b4 131 [.int .i64 x7, .int .i64 x8, .int .i64 x9, .int .i64 x10, .int .i64 x11, .int .i64 x12, .int .i64 x13, .int .i64 x14, .bool x15, .bool x16]) :: (box b3 128 [.int .i64 p0.root, .slice A1 p0.nodes.length c1, .slice A6 x2.length ((p0.nodes.length : Int).toNat), .int .i64 x3, .int .i64 x4]) :: (row 4 eBool A6 ((p0.nodes.length : Int).toNat) x2) :: G1) w') ?_ ?_
     ·
      refine T.region ?_
      refine T.pure (.int .i64 x5) (by kernel_rfl) (fun _ => by kernel_rfl) ?_
      refine T.pure (.bool (decide (x5 < 0))) (by kernel_rfl) (fun _ => by kernel_rfl) ?_
      refine T.pure (.bool (decide (x5 < 0))) (by kernel_rfl) (fun _ => by kernel_rfl) ?_
      cases hg1 : decide (x5 < 0)
      ·
       skip
       rw [hg1, cond_false] at hX1
       refine T.pure (.int .i64 x5) (by kernel_rfl) (fun _ => by kernel_rfl) ?_
       refine T.pure (.pointer (some ⟨b3, 0, none⟩)) (by kernel_rfl) (fun _ => by kernel_rfl) ?_
       refine T.pure (.pointer (some ⟨b3, 0, none⟩)) (by kernel_rfl) (fun _ => by kernel_rfl) ?_
       refine T.pure (.pointer (some ⟨b3, 0, none⟩)) (by kernel_rfl) (fun _ => by kernel_rfl) ?_
       refine T.pure (.pointer (some ⟨b3, 1, none⟩)) (by kernel_rfl) (fun _ => by kernel_rfl) ?_
       refine T.look (.slice A1 p0.nodes.length c1) (by kernel_rfl) (fun w' hh => exec_load1 rfl rfl (by kernel_rfl) (hh.cellBox (i := 1) (by rfl) 1)) ?_
       refine T.pure (.int .i64 (p0.nodes.length : Int)) (by kernel_rfl) (fun _ => by kernel_rfl) ?_
       refine T.pure (.bool (decide ((p0.nodes.length : Int) ≤ x5))) (by kernel_rfl) (fun _ => by kernel_rfl) ?_
       refine T.pure (.bool (decide ((p0.nodes.length : Int) ≤ x5))) (by kernel_rfl) (fun _ => by kernel_rfl) ?_
       refine T.pure (.bool (decide ((p0.nodes.length : Int) ≤ x5))) (by kernel_rfl) (fun _ => by kernel_rfl) ?_
       cases hg2 : decide ((p0.nodes.length : Int) ≤ x5)
       ·
        skip
        rw [hg2, cond_false] at hX1
        refine T.pure (.pointer (some ⟨b3, 0, none⟩)) (by kernel_rfl) (fun _ => by kernel_rfl) ?_
        refine T.pure (.pointer (some ⟨b3, 0, none⟩)) (by kernel_rfl) (fun _ => by kernel_rfl) ?_
        refine T.pure (.pointer (some ⟨b3, 2, none⟩)) (by kernel_rfl) (fun _ => by kernel_rfl) ?_
        refine T.look (.slice A6 x2.length ((p0.nodes.length : Int).toNat)) (by kernel_rfl) (fun w' hh => exec_load1 rfl rfl (by kernel_rfl) (hh.cellBox (i := 1) (by rfl) 2)) ?_
        refine T.pure (.int .i64 x5) (by kernel_rfl) (fun _ => by kernel_rfl) ?_
        obtain ⟨e2, hb4, hX1⟩ := Option.bind_eq_some_iff.1 hX1
        obtain ⟨hi4, hi5, hi6⟩ := idx_some hb4
        refine T.look (.pointer (some ((sadr A6).add (x5.toNat * 1)))) (by kernel_rfl) (fun w' hh => exec_indexAddr (e := 4) (s := 1) rfl rfl rfl (by kernel_rfl) (by kernel_rfl) hi4 hi5 ((hh.row_slOk (i := 2) (by rfl)).some_ hi6 (by decide))) ?_
        refine T.look (.bool e2) (by kernel_rfl) (fun w' hh => exec_load1 rfl rfl (by kernel_rfl) (SlOk.wcellF0 (E := eBool) (hh.row_slOk (i := 2) (by rfl)) hi6 (fun _ _ _ h => h) rfl)) ?_
        refine T.pure (.bool e2) (by kernel_rfl) (fun _ => by kernel_rfl) ?_
        refine T.pure (.bool e2) (by kernel_rfl) (fun _ => by kernel_rfl) ?_
        cases hg3 : e2
        ·
         skip
         rw [hg3, cond_false] at hX1
         refine T.pure (.pointer (some ⟨b3, 0, none⟩)) (by kernel_rfl) (fun _ => by kernel_rfl) ?_
         refine T.pure (.pointer (some ⟨b3, 0, none⟩)) (by kernel_rfl) (fun _ => by kernel_rfl) ?_
         refine T.pure (.pointer (some ⟨b3, 0, none⟩)) (by kernel_rfl) (fun _ => by kernel_rfl) ?_
         refine T.pure (.pointer (some ⟨b3, 1, none⟩)) (by kernel_rfl) (fun _ => by kernel_rfl) ?_
         refine T.look (.slice A1 p0.nodes.length c1) (by kernel_rfl) (fun w' hh => exec_load1 rfl rfl (by kernel_rfl) (hh.cellBox (i := 1) (by rfl) 1)) ?_
         refine T.pure (.int .i64 x5) (by kernel_rfl) (fun _ => by kernel_rfl) ?_
         obtain ⟨e3, hb5, hX1⟩ := Option.bind_eq_some_iff.1 hX1
         obtain ⟨hi7, hi8, hi9⟩ := idx_some hb5
         obtain ⟨cs2, hr3, hc6⟩ := SlOk.elem (SlOk.mono hs1 (View.le_trans hV2 hV4)) hi9
         obtain ⟨A7, c6, A8, c7, A9, c8, A10, c9, rfl, hs6, hs7, hs8, hs9⟩ := hr3
         refine T.look (.pointer (some ((sadr A1).add (x5.toNat * 5)))) (by kernel_rfl) (fun w' hh => exec_indexAddr (e := 97) (s := 5) rfl rfl rfl (by kernel_rfl) (by kernel_rfl) hi7 hi8 ((SlOk.mono hs1 (View.le_trans hV2 hV4)).some_ hi9 (by decide))) ?_
         refine T.pure (.pointer (some ((sadr A1).add (x5.toNat * 5)))) (by kernel_rfl) (fun _ => by kernel_rfl) ?_
         refine T.look (.int .i64 e3.kind) (by kernel_rfl) (fun w' hh => exec_load1 rfl rfl (by kernel_rfl) (hh.cell_view (View.cell_mono (View.le_refl _) (hc6 0 _ rfl).2))) ?_
         refine T.pure (.bool (e3.kind == 0)) (by kernel_rfl) (fun _ => by kernel_rfl) ?_
         refine T.pure (.bool (e3.kind == 0)) (by kernel_rfl) (fun _ => by kernel_rfl) ?_
         refine T.nil ?_
         cases hX1
         exact fun a w' hf hh => And.intro ((((((Fr.nil hf).pick hf 52 rfl).pick hf 7 rfl).pick hf 2 rfl).pick hf 1 rfl).pick hf 0 rfl) (hh.sub (.cons_cons _ (.cons_cons _ (.cons_cons _ (List.Sublist.refl _)))))
        ·
         skip
         rw [hg3, cond_true] at hX1
         refine T.pass (by kernel_rfl) (by kernel_rfl) ?_
         refine T.pass (by kernel_rfl) (by kernel_rfl) ?_
         refine T.pass (by kernel_rfl) (by kernel_rfl) ?_
         refine T.pass (by kernel_rfl) (by kernel_rfl) ?_
         refine T.pass (by kernel_rfl) (by kernel_rfl) ?_
         refine T.pass (by kernel_rfl) (by kernel_rfl) ?_
         refine T.pass (by kernel_rfl) (by kernel_rfl) ?_
         refine T.pass (by kernel_rfl) (by kernel_rfl) ?_
         refine T.pass (by kernel_rfl) (by kernel_rfl) ?_
         refine T.pass (by kernel_rfl) (by kernel_rfl) ?_
         refine T.pure (.bool true) (by kernel_rfl) (fun _ => by kernel_rfl) ?_
         refine T.nil ?_
         cases hX1
         exact fun a w' hf hh => And.intro ((((((Fr.nil hf).pick hf 52 rfl).pick hf 7 rfl).pick hf 2 rfl).pick hf 1 rfl).pick hf 0 rfl) (hh.sub (.cons_cons _ (.cons_cons _ (.cons_cons _ (List.Sublist.refl _)))))
       ·
        skip
        rw [hg2, cond_true] at hX1
        refine T.pass (by kernel_rfl) (by kernel_rfl) ?_
        refine T.pass (by kernel_rfl) (by kernel_rfl) ?_
        refine T.pass (by kernel_rfl) (by kernel_rfl) ?_
        refine T.pass (by kernel_rfl) (by kernel_rfl) ?_
        refine T.pass (by kernel_rfl) (by kernel_rfl) ?_
        refine T.pass (by kernel_rfl) (by kernel_rfl) ?_
        refine T.pass (by kernel_rfl) (by kernel_rfl) ?_
        refine T.pure (.bool true) (by kernel_rfl) (fun _ => by kernel_rfl) ?_
        refine T.pure (.bool true) (by kernel_rfl) (fun _ => by kernel_rfl) ?_
        refine T.pass (by kernel_rfl) (by kernel_rfl) ?_
        refine T.pass (by kernel_rfl) (by kernel_rfl) ?_
        refine T.pass (by kernel_rfl) (by kernel_rfl) ?_
        refine T.pass (by kernel_rfl) (by kernel_rfl) ?_
        refine T.pass (by kernel_rfl) (by kernel_rfl) ?_
        refine T.pass (by kernel_rfl) (by kernel_rfl) ?_
        refine T.pass (by kernel_rfl) (by kernel_rfl) ?_
        refine T.pass (by kernel_rfl) (by kernel_rfl) ?_
        refine T.pass (by kernel_rfl) (by kernel_rfl) ?_
        refine T.pass (by kernel_rfl) (by kernel_rfl) ?_
        refine T.pure (.bool true) (by kernel_rfl) (fun _ => by kernel_rfl) ?_
        refine T.nil ?_
        cases hX1
        exact fun a w' hf hh => And.intro ((((((Fr.nil hf).pick hf 52 rfl).pick hf 7 rfl).pick hf 2 rfl).pick hf 1 rfl).pick hf 0 rfl) (hh.sub (.cons_cons _ (.cons_cons _ (.cons_cons _ (List.Sublist.refl _)))))
      ·
       skip
       rw [hg1, cond_true] at hX1
       refine T.pass (by kernel_rfl) (by kernel_rfl) ?_
       refine T.pass (by kernel_rfl) (by kernel_rfl) ?_
       refine T.pass (by kernel_rfl) (by kernel_rfl) ?_
       refine T.pass (by kernel_rfl) (by kernel_rfl) ?_
       refine T.pass (by kernel_rfl) (by kernel_rfl) ?_
       refine T.pass (by kernel_rfl) (by kernel_rfl) ?_
       refine T.pass (by kernel_rfl) (by kernel_rfl) ?_
       refine T.pass (by kernel_rfl) (by kernel_rfl) ?_
       refine T.pure (.bool true) (by kernel_rfl) (fun _ => by kernel_rfl) ?_
       refine T.pure (.bool true) (by kernel_rfl) (fun _ => by kernel_rfl) ?_
       refine T.pass (by kernel_rfl) (by kernel_rfl) ?_
       refine T.pass (by kernel_rfl) (by kernel_rfl) ?_
       refine T.pass (by kernel_rfl) (by kernel_rfl) ?_
       refine T.pass (by kernel_rfl) (by kernel_rfl) ?_
       refine T.pass (by kernel_rfl) (by kernel_rfl) ?_
       refine T.pass (by kernel_rfl) (by kernel_rfl) ?_
       refine T.pass (by kernel_rfl) (by kernel_rfl) ?_
       refine T.pure (.bool true) (by kernel_rfl) (fun _ => by kernel_rfl) ?_
       refine T.pure (.bool true) (by kernel_rfl) (fun _ => by kernel_rfl) ?_
       refine T.pass (by kernel_rfl) (by kernel_rfl) ?_
       refine T.pass (by kernel_rfl) (by kernel_rfl) ?_
       refine T.pass (by kernel_rfl) (by kernel_rfl) ?_
       refine T.pass (by kernel_rfl) (by kernel_rfl) ?_
       refine T.pass (by kernel_rfl) (by kernel_rfl) ?_
       refine T.pass (by kernel_rfl) (by kernel_rfl) ?_
       refine T.pass (by kernel_rfl) (by kernel_rfl) ?_
       refine T.pass (by kernel_rfl) (by kernel_rfl) ?_
       refine T.pass (by kernel_rfl) (by kernel_rfl) ?_
       refine T.pass (by kernel_rfl) (by kernel_rfl) ?_
       refine T.pure (.bool true) (by kernel_rfl) (fun _ => by kernel_rfl) ?_
       refine T.nil ?_
       cases hX1
       exact fun a w' hf hh => And.intro ((((((Fr.nil hf).pick hf 52 rfl).pick hf 7 rfl).pick hf 2 rfl).pick hf 1 rfl).pick hf 0 rfl) (hh.sub (.cons_cons _ (.cons_cons _ (.cons_cons _ (List.Sublist.refl _)))))
     ·
      rintro a w' ⟨hf, hh⟩
      refine (?_ : T 175 w V4 ((box b4 131 [.int .i64 x7, .int .i64 x8, .int .i64 x9, .int .i64 x10, .int .i64 x11, .int .i64 x12, .int .i64 x13, .int .i64 x14, .bool x15, .bool x16]) :: (box b3 128 [.int .i64 p0.root, .slice A1 p0.nodes.length c1, .slice A6 x2.length ((p0.nodes.length : Int).toNat), .int .i64 x3, .int .i64 x4]) :: (row 4 eBool A6 ((p0.nodes.length : Int).toNat) x2) :: G1) [(0, .pointer (some ⟨b3, 0, none⟩)), (1, .int .i64 x5), (2, .int .i64 x6), (7, .pointer (some ⟨b4, 0, none⟩)), (52, .bool z5)] _) a w' hf hh
      clear hf hh
      refine T.cond z5 (by kernel_rfl) (by kernel_rfl) (fun hc7 => ?_) (fun hc7 => ?_)
      ·
       rw [hc7, cond_true] at hS1
       refine T.seq ?_
       refine T.region ?_
       refine T.pure (.pointer (some ⟨b3, 0, none⟩)) (by kernel_rfl) (fun _ => by kernel_rfl) ?_
       obtain ⟨z6, hX2, hS1⟩ := Option.bind_eq_some_iff.1 hS1
       refine T.step (W1.within 75 [.pointer (some ⟨b3, 0, none⟩), .int .i64 3] (fun v w' => v = .tuple #[] ∧ Hp w V4 ((box b3 128 [.int .i64 p0.root, .slice A1 p0.nodes.length c1, .slice A6 x2.length ((p0.nodes.length : Int).toNat), .int .i64 x3, .int .i64 z6]) :: (row 4 eBool A6 ((p0.nodes.length : Int).toNat) x2) :: G1) w') Try.func75 rfl rfl (by kernel_rfl) (fun _ => by kernel_rfl) rfl ?_ ?_)
       ·
        refine T.seq ?_
        refine T.region ?_
        refine T.pure (.pointer (some ⟨b3, 0, none⟩)) (by kernel_rfl) (fun _ => by kernel_rfl) ?_
        refine T.pure (.pointer (some ⟨b3, 0, none⟩)) (by kernel_rfl) (fun _ => by kernel_rfl) ?_
        refine T.pure (.pointer (some ⟨b3, 4, none⟩)) (by kernel_rfl) (fun _ => by kernel_rfl) ?_
        refine T.look (.int .i64 x4) (by kernel_rfl) (fun w' hh => exec_load1 rfl rfl (by kernel_rfl) (hh.cellBox (i := 1) (by rfl) 4)) ?_
        refine T.pure (.bool (x4 == 0)) (by kernel_rfl) (fun _ => by kernel_rfl) ?_
        refine T.nil ?_
        refine T.cond (x4 == 0) (by kernel_rfl) (by kernel_rfl) (fun hc8 => ?_) (fun hc8 => ?_)
        ·
         rw [hc8, cond_true] at hX2
         refine T.region ?_
         refine T.pure (.pointer (some ⟨b3, 0, none⟩)) (by kernel_rfl) (fun _ => by kernel_rfl) ?_
         refine T.pure (.int .i64 3) (by kernel_rfl) (fun _ => by kernel_rfl) ?_
         refine T.pure (.pointer (some ⟨b3, 0, none⟩)) (by kernel_rfl) (fun _ => by kernel_rfl) ?_
         refine T.pure (.pointer (some ⟨b3, 4, none⟩)) (by kernel_rfl) (fun _ => by kernel_rfl) ?_
         refine T.step (W1.store 1 [.int .i64 p0.root, .slice A1 p0.nodes.length c1, .slice A6 x2.length ((p0.nodes.length : Int).toNat), .int .i64 x3, .int .i64 3] ((box b4 131 [.int .i64 x7, .int .i64 x8, .int .i64 x9, .int .i64 x10, .int .i64 x11, .int .i64 x12, .int .i64 x13, .int .i64 x14, .bool x15, .bool x16]) :: (box b3 128 [.int .i64 p0.root, .slice A1 p0.nodes.length c1, .slice A6 x2.length ((p0.nodes.length : Int).toNat), .int .i64 x3, .int .i64 3]) :: (row 4 eBool A6 ((p0.nodes.length : Int).toNat) x2) :: G1) (by rfl) rfl (by kernel_rfl) (fun w' hw => exec_store (vs := [.int .i64 3]) rfl rfl rfl rfl (by kernel_rfl) (one_of rfl) (by simp) rfl hw) ?_)
         refine T.nil ?_
         cases hX2
         repeat first | refine T.unthen ?_ | refine T.unblock ?_
         exact T.end0 rfl fun w' hh => ⟨_, rfl, And.intro rfl (hh.sub (.cons _ (.cons_cons _ (.cons_cons _ (List.Sublist.refl _)))))⟩
        ·
         rw [hc8, cond_false] at hX2
         refine T.skip_code ?_
         cases hX2
         repeat first | refine T.unthen ?_ | refine T.unblock ?_
         exact T.end0 rfl fun w' hh => ⟨_, rfl, And.intro rfl (hh.sub (.cons _ (.cons_cons _ (.cons_cons _ (List.Sublist.refl _)))))⟩
       ·
        rintro v w' ⟨rfl, hh⟩
        refine ⟨V4, ((box b3 128 [.int .i64 p0.root, .slice A1 p0.nodes.length c1, .slice A6 x2.length ((p0.nodes.length : Int).toNat), .int .i64 x3, .int .i64 z6]) :: (row 4 eBool A6 ((p0.nodes.length : Int).toNat) x2) :: G1), hh, ?_⟩
        clear hh
        refine T.nil ?_
        refine T.seq ?_
        refine T.region ?_
        refine T.pure (.int .i64 0) (by kernel_rfl) (fun _ => by kernel_rfl) ?_
        refine T.nil ?_
        have hres := Option.some.inj hS1
        subst hres
        refine T.ret rfl ?_
        repeat first | refine T.unthen ?_ | refine T.unblock ?_
        exact T.ret1 rfl (ResIs.tmp rfl) fun w' hh => ⟨_, rfl, Exists.intro x2 (Exists.intro x3 (Exists.intro z6 (Exists.intro 0 (And.intro rfl (Exists.intro V4 (And.intro (View.le_refl _) (And.intro rfl (hh.sub (.cons_cons _ (.cons_cons _ (List.Sublist.refl _)))))))))))⟩
      ·
       rw [hc7, cond_false] at hS1
       refine T.skip_code ?_
       refine T.seq ?_
       refine T.region ?_
       refine T.pure (.pointer (some ⟨b3, 0, none⟩)) (by kernel_rfl) (fun _ => by kernel_rfl) ?_
       refine T.pure (.pointer (some ⟨b3, 0, none⟩)) (by kernel_rfl) (fun _ => by kernel_rfl) ?_
       refine T.pure (.pointer (some ⟨b3, 2, none⟩)) (by kernel_rfl) (fun _ => by kernel_rfl) ?_
       refine T.look (.slice A6 x2.length ((p0.nodes.length : Int).toNat)) (by kernel_rfl) (fun w' hh => exec_load1 rfl rfl (by kernel_rfl) (hh.cellBox (i := 1) (by rfl) 2)) ?_
       refine T.pure (.int .i64 x5) (by kernel_rfl) (fun _ => by kernel_rfl) ?_
       obtain ⟨e4, hb6, hS1⟩ := Option.bind_eq_some_iff.1 hS1
       obtain ⟨hi10, hi11, hi12⟩ := idx_some hb6
       refine T.look (.pointer (some ((sadr A6).add (x5.toNat * 1)))) (by kernel_rfl) (fun w' hh => exec_indexAddr (e := 4) (s := 1) rfl rfl rfl (by kernel_rfl) (by kernel_rfl) hi10 hi11 ((hh.row_slOk (i := 2) (by rfl)).some_ hi12 (by decide))) ?_
       refine T.step (W1.storeRow (E := eBool) 2 (x5.toNat) 0 e4 true _ (vs := [.bool true]) (by rfl) (by kernel_rfl) rfl rfl (addr_add0 _).symm rfl rfl (fun _ => by kernel_rfl) (one_of rfl) hi12 (Nat.le_of_ble_eq_true (by kernel_rfl)) (fun _ _ h => by cases h; rfl) ?_)
       refine T.reslot 58 (.slice A6 ((x2.set x5.toNat true).length) ((p0.nodes.length : Int).toNat)) rfl (by simp only [List.length_set]) ?_
       refine T.reH (H' := ((box b4 131 [.int .i64 x7, .int .i64 x8, .int .i64 x9, .int .i64 x10, .int .i64 x11, .int .i64 x12, .int .i64 x13, .int .i64 x14, .bool x15, .bool x16]) :: (box b3 128 [.int .i64 p0.root, .slice A1 p0.nodes.length c1, .slice A6 ((x2.set x5.toNat true).length) ((p0.nodes.length : Int).toNat), .int .i64 x3, .int .i64 x4]) :: (row 4 eBool A6 ((p0.nodes.length : Int).toNat) (x2.set x5.toNat true)) :: G1)) (by first | (simp only [List.length_set]; done) | (simp only [List.length_set]; rfl)) ?_
       refine T.nil ?_
       refine T.seq ?_
       refine T.region ?_
       refine T.pure (.pointer (some ⟨b3, 0, none⟩)) (by kernel_rfl) (fun _ => by kernel_rfl) ?_
       refine T.pure (.pointer (some ⟨b3, 0, none⟩)) (by kernel_rfl) (fun _ => by kernel_rfl) ?_
       refine T.pure (.pointer (some ⟨b3, 0, none⟩)) (by kernel_rfl) (fun _ => by kernel_rfl) ?_
       refine T.pure (.pointer (some ⟨b3, 1, none⟩)) (by kernel_rfl) (fun _ => by kernel_rfl) ?_
       refine T.look (.slice A1 p0.nodes.length c1) (by kernel_rfl) (fun w' hh => exec_load1 rfl rfl (by kernel_rfl) (hh.cellBox (i := 1) (by rfl) 1)) ?_
       refine T.pure (.int .i64 x5) (by kernel_rfl) (fun _ => by kernel_rfl) ?_
       obtain ⟨e5, hb7, hS1⟩ := Option.bind_eq_some_iff.1 hS1
       obtain ⟨hi13, hi14, hi15⟩ := idx_some hb7
       obtain ⟨cs3, hr4, hc9⟩ := SlOk.elem (SlOk.mono hs1 (View.le_trans hV2 hV4)) hi15
       obtain ⟨A11, c10, A12, c11, A13, c12, A14, c13, rfl, hs10, hs11, hs12, hs13⟩ := hr4
       refine T.look (.pointer (some ((sadr A1).add (x5.toNat * 5)))) (by kernel_rfl) (fun w' hh => exec_indexAddr (e := 97) (s := 5) rfl rfl rfl (by kernel_rfl) (by kernel_rfl) hi13 hi14 ((SlOk.mono hs1 (View.le_trans hV2 hV4)).some_ hi15 (by decide))) ?_
       refine T.look (.agg #[.int .i64 e5.kind, .slice A11 e5.elems.length c10, .slice A12 e5.kids.length c11, .slice A13 e5.seps.length c12, .slice A14 e5.tids.length c13]) (by kernel_rfl) (fun w' hh => exec_loadN (cs := [.int .i64 e5.kind, .slice A11 e5.elems.length c10, .slice A12 e5.kids.length c11, .slice A13 e5.seps.length c12, .slice A14 e5.tids.length c13]) rfl rfl (by kernel_rfl) (by kernel_rfl) (fun j u hj => hh.cell_view (View.cell_mono (View.le_refl _) (hc9 j u hj).2))) ?_
       refine T.step (W1.new 97 [.int .i64 0, .slice none 0 0, .slice none 0 0, .slice none 0 0, .slice none 0 0] (fun b => .pointer (some ⟨b, 0, none⟩)) (by kernel_rfl) (fun _ => by kernel_rfl) (fun b5 => ?_))
       refine T.step (W1.store 0 [.int .i64 e5.kind, .slice A11 e5.elems.length c10, .slice A12 e5.kids.length c11, .slice A13 e5.seps.length c12, .slice A14 e5.tids.length c13] ((box b5 97 [.int .i64 e5.kind, .slice A11 e5.elems.length c10, .slice A12 e5.kids.length c11, .slice A13 e5.seps.length c12, .slice A14 e5.tids.length c13]) :: (box b4 131 [.int .i64 x7, .int .i64 x8, .int .i64 x9, .int .i64 x10, .int .i64 x11, .int .i64 x12, .int .i64 x13, .int .i64 x14, .bool x15, .bool x16]) :: (box b3 128 [.int .i64 p0.root, .slice A1 p0.nodes.length c1, .slice A6 ((x2.set x5.toNat true).length) ((p0.nodes.length : Int).toNat), .int .i64 x3, .int .i64 x4]) :: (row 4 eBool A6 ((p0.nodes.length : Int).toNat) (x2.set x5.toNat true)) :: G1) (by rfl) rfl (by kernel_rfl) (fun w' hw => exec_store (vs := [.int .i64 e5.kind, .slice A11 e5.elems.length c10, .slice A12 e5.kids.length c11, .slice A13 e5.seps.length c12, .slice A14 e5.tids.length c13]) rfl rfl rfl rfl (by kernel_rfl) (one_of rfl) (by simp) rfl hw) ?_)
       refine T.nil ?_
       obtain ⟨z7, hX3, hS1⟩ := Option.bind_eq_some_iff.1 hS1
       refine T.cut (fun a w' => Fr 175 [(0, .pointer (some ⟨b3, 0, none⟩)), (2, .int .i64 x6), (7, .pointer (some ⟨b4, 0, none⟩)), (9, .pointer (some ⟨b5, 0, none⟩))] a ∧ Hp w V4 ((box b5 97 [.int .i64 e5.kind, .slice A11 e5.elems.length c10, .slice A12 e5.kids.length c11, .slice A13 e5.seps.length c12, .slice A14 e5.tids.length c13]) :: (box b4 131 [.int .i64 x7, .int .i64 x8, .int .i64 x9, .int .i64 x10, .int .i64 x11, .int .i64 x12, .int .i64 x13, .int .i64 x14, .bool x15, .bool x16]) :: (box b3 128 [.int .i64 p0.root, .slice A1 p0.nodes.length c1, .slice A6 ((x2.set x5.toNat true).length) ((p0.nodes.length : Int).toNat), .int .i64 x3, .int .i64 z7]) :: (row 4 eBool A6 ((p0.nodes.length : Int).toNat) (x2.set x5.toNat true)) :: G1) w') ?_ ?_
       ·
        refine T.cut (fun a w' => Fr 175 [(0, .pointer (some ⟨b3, 0, none⟩)), (2, .int .i64 x6), (7, .pointer (some ⟨b4, 0, none⟩)), (9, .pointer (some ⟨b5, 0, none⟩)), (80, .bool ((decide ((0 : Int) < x6)) && (decide ((IntKind.i64.wrap ((e5.elems.length : Int) + (e5.kids.length : Int))) < 4))))] a ∧ Hp w V4 ((box b5 97 [.int .i64 e5.kind, .slice A11 e5.elems.length c10, .slice A12 e5.kids.length c11, .slice A13 e5.seps.length c12, .slice A14 e5.tids.length c13]) :: (box b4 131 [.int .i64 x7, .int .i64 x8, .int .i64 x9, .int .i64 x10, .int .i64 x11, .int .i64 x12, .int .i64 x13, .int .i64 x14, .bool x15, .bool x16]) :: (box b3 128 [.int .i64 p0.root, .slice A1 p0.nodes.length c1, .slice A6 ((x2.set x5.toNat true).length) ((p0.nodes.length : Int).toNat), .int .i64 x3, .int .i64 x4]) :: (row 4 eBool A6 ((p0.nodes.length : Int).toNat) (x2.set x5.toNat true)) :: G1) w') ?_ ?_
        ·
         refine T.region ?_
         refine T.pure (.int .i64 x6) (by kernel_rfl) (fun _ => by kernel_rfl) ?_
         refine T.pure (.bool (decide ((0 : Int) < x6))) (by kernel_rfl) (fun _ => by kernel_rfl) ?_
         refine T.pure (.bool (decide ((0 : Int) < x6))) (by kernel_rfl) (fun _ => by kernel_rfl) ?_
         cases hg4 : decide ((0 : Int) < x6)
         ·
          skip
          refine T.pass (by kernel_rfl) (by kernel_rfl) ?_
          refine T.pass (by kernel_rfl) (by kernel_rfl) ?_
          refine T.pass (by kernel_rfl) (by kernel_rfl) ?_
          refine T.pass (by kernel_rfl) (by kernel_rfl) ?_
          refine T.pass (by kernel_rfl) (by kernel_rfl) ?_
          refine T.pass (by kernel_rfl) (by kernel_rfl) ?_
          refine T.pass (by kernel_rfl) (by kernel_rfl) ?_
          refine T.pass (by kernel_rfl) (by kernel_rfl) ?_
          refine T.pure (.bool false) (by kernel_rfl) (fun _ => by kernel_rfl) ?_
          refine T.nil ?_
          exact fun a w' hf hh => And.intro ((((((Fr.nil hf).pick hf 80 rfl).pick hf 9 rfl).pick hf 7 rfl).pick hf 2 rfl).pick hf 0 rfl) (hh.sub (.cons_cons _ (.cons_cons _ (.cons_cons _ (.cons_cons _ (List.Sublist.refl _))))))
         ·
          skip
          refine T.pure (.pointer (some ⟨b5, 1, none⟩)) (by kernel_rfl) (fun _ => by kernel_rfl) ?_
          refine T.look (.slice A11 e5.elems.length c10) (by kernel_rfl) (fun w' hh => exec_load1 rfl rfl (by kernel_rfl) (hh.cellBox (i := 0) (by rfl) 1)) ?_
          refine T.pure (.int .i64 (e5.elems.length : Int)) (by kernel_rfl) (fun _ => by kernel_rfl) ?_
          refine T.pure (.pointer (some ⟨b5, 2, none⟩)) (by kernel_rfl) (fun _ => by kernel_rfl) ?_
          refine T.look (.slice A12 e5.kids.length c11) (by kernel_rfl) (fun w' hh => exec_load1 rfl rfl (by kernel_rfl) (hh.cellBox (i := 0) (by rfl) 2)) ?_
          refine T.pure (.int .i64 (e5.kids.length : Int)) (by kernel_rfl) (fun _ => by kernel_rfl) ?_
          refine T.pure (.int .i64 (IntKind.i64.wrap ((e5.elems.length : Int) + (e5.kids.length : Int)))) (by kernel_rfl) (fun _ => by kernel_rfl) ?_
          refine T.pure (.bool (decide ((IntKind.i64.wrap ((e5.elems.length : Int) + (e5.kids.length : Int))) < 4))) (by kernel_rfl) (fun _ => by kernel_rfl) ?_
          refine T.pure (.bool (decide ((IntKind.i64.wrap ((e5.elems.length : Int) + (e5.kids.length : Int))) < 4))) (by kernel_rfl) (fun _ => by kernel_rfl) ?_
          refine T.nil ?_
          exact fun a w' hf hh => And.intro ((((((Fr.nil hf).pick hf 80 rfl).pick hf 9 rfl).pick hf 7 rfl).pick hf 2 rfl).pick hf 0 rfl) (hh.sub (.cons_cons _ (.cons_cons _ (.cons_cons _ (.cons_cons _ (List.Sublist.refl _))))))
        ·
         rintro a w' ⟨hf, hh⟩
         refine (?_ : T 175 w V4 ((box b5 97 [.int .i64 e5.kind, .slice A11 e5.elems.length c10, .slice A12 e5.kids.length c11, .slice A13 e5.seps.length c12, .slice A14 e5.tids.length c13]) :: (box b4 131 [.int .i64 x7, .int .i64 x8, .int .i64 x9, .int .i64 x10, .int .i64 x11, .int .i64 x12, .int .i64 x13, .int .i64 x14, .bool x15, .bool x16]) :: (box b3 128 [.int .i64 p0.root, .slice A1 p0.nodes.length c1, .slice A6 ((x2.set x5.toNat true).length) ((p0.nodes.length : Int).toNat), .int .i64 x3, .int .i64 x4]) :: (row 4 eBool A6 ((p0.nodes.length : Int).toNat) (x2.set x5.toNat true)) :: G1) [(0, .pointer (some ⟨b3, 0, none⟩)), (2, .int .i64 x6), (7, .pointer (some ⟨b4, 0, none⟩)), (9, .pointer (some ⟨b5, 0, none⟩)), (80, .bool ((decide ((0 : Int) < x6)) && (decide ((IntKind.i64.wrap ((e5.elems.length : Int) + (e5.kids.length : Int))) < 4))))] _) a w' hf hh
         clear hf hh
         refine T.cond ((decide ((0 : Int) < x6)) && (decide ((IntKind.i64.wrap ((e5.elems.length : Int) + (e5.kids.length : Int))) < 4))) (by kernel_rfl) (by kernel_rfl) (fun hc10 => ?_) (fun hc10 => ?_)
         ·
          rw [hc10, cond_true] at hX3
          refine T.region ?_
          refine T.pure (.pointer (some ⟨b3, 0, none⟩)) (by kernel_rfl) (fun _ => by kernel_rfl) ?_
          obtain ⟨z8, hX4, hX3⟩ := Option.bind_eq_some_iff.1 hX3
          refine T.step (W1.within 75 [.pointer (some ⟨b3, 0, none⟩), .int .i64 3] (fun v w' => v = .tuple #[] ∧ Hp w V4 ((box b5 97 [.int .i64 e5.kind, .slice A11 e5.elems.length c10, .slice A12 e5.kids.length c11, .slice A13 e5.seps.length c12, .slice A14 e5.tids.length c13]) :: (box b4 131 [.int .i64 x7, .int .i64 x8, .int .i64 x9, .int .i64 x10, .int .i64 x11, .int .i64 x12, .int .i64 x13, .int .i64 x14, .bool x15, .bool x16]) :: (box b3 128 [.int .i64 p0.root, .slice A1 p0.nodes.length c1, .slice A6 ((x2.set x5.toNat true).length) ((p0.nodes.length : Int).toNat), .int .i64 x3, .int .i64 z8]) :: (row 4 eBool A6 ((p0.nodes.length : Int).toNat) (x2.set x5.toNat true)) :: G1) w') Try.func75 rfl rfl (by kernel_rfl) (fun _ => by kernel_rfl) rfl ?_ ?_)
          ·
           refine T.seq ?_
           refine T.region ?_
           refine T.pure (.pointer (some ⟨b3, 0, none⟩)) (by kernel_rfl) (fun _ => by kernel_rfl) ?_
           refine T.pure (.pointer (some ⟨b3, 0, none⟩)) (by kernel_rfl) (fun _ => by kernel_rfl) ?_
           refine T.pure (.pointer (some ⟨b3, 4, none⟩)) (by kernel_rfl) (fun _ => by kernel_rfl) ?_
           refine T.look (.int .i64 x4) (by kernel_rfl) (fun w' hh => exec_load1 rfl rfl (by kernel_rfl) (hh.cellBox (i := 2) (by rfl) 4)) ?_
           refine T.pure (.bool (x4 == 0)) (by kernel_rfl) (fun _ => by kernel_rfl) ?_
           refine T.nil ?_
           refine T.cond (x4 == 0) (by kernel_rfl) (by kernel_rfl) (fun hc11 => ?_) (fun hc11 => ?_)
           ·
            rw [hc11, cond_true] at hX4
            refine T.region ?_
            refine T.pure (.pointer (some ⟨b3, 0, none⟩)) (by kernel_rfl) (fun _ => by kernel_rfl) ?_
            refine T.pure (.int .i64 3) (by kernel_rfl) (fun _ => by kernel_rfl) ?_
            refine T.pure (.pointer (some ⟨b3, 0, none⟩)) (by kernel_rfl) (fun _ => by kernel_rfl) ?_
            refine T.pure (.pointer (some ⟨b3, 4, none⟩)) (by kernel_rfl) (fun _ => by kernel_rfl) ?_
            refine T.step (W1.store 2 [.int .i64 p0.root, .slice A1 p0.nodes.length c1, .slice A6 ((x2.set x5.toNat true).length) ((p0.nodes.length : Int).toNat), .int .i64 x3, .int .i64 3] ((box b5 97 [.int .i64 e5.kind, .slice A11 e5.elems.length c10, .slice A12 e5.kids.length c11, .slice A13 e5.seps.length c12, .slice A14 e5.tids.length c13]) :: (box b4 131 [.int .i64 x7, .int .i64 x8, .int .i64 x9, .int .i64 x10, .int .i64 x11, .int .i64 x12, .int .i64 x13, .int .i64 x14, .bool x15, .bool x16]) :: (box b3 128 [.int .i64 p0.root, .slice A1 p0.nodes.length c1, .slice A6 ((x2.set x5.toNat true).length) ((p0.nodes.length : Int).toNat), .int .i64 x3, .int .i64 3]) :: (row 4 eBool A6 ((p0.nodes.length : Int).toNat) (x2.set x5.toNat true)) :: G1) (by rfl) rfl (by kernel_rfl) (fun w' hw => exec_store (vs := [.int .i64 3]) rfl rfl rfl rfl (by kernel_rfl) (one_of rfl) (by simp) rfl hw) ?_)
            refine T.nil ?_
            cases hX4
            repeat first | refine T.unthen ?_ | refine T.unblock ?_
            exact T.end0 rfl fun w' hh => ⟨_, rfl, And.intro rfl (hh.sub (.cons_cons _ (.cons_cons _ (.cons_cons _ (.cons_cons _ (List.Sublist.refl _))))))⟩
           ·
            rw [hc11, cond_false] at hX4
            refine T.skip_code ?_
            cases hX4
            repeat first | refine T.unthen ?_ | refine T.unblock ?_
            exact T.end0 rfl fun w' hh => ⟨_, rfl, And.intro rfl (hh.sub (.cons_cons _ (.cons_cons _ (.cons_cons _ (.cons_cons _ (List.Sublist.refl _))))))⟩
          ·
           rintro v w' ⟨rfl, hh⟩
           refine ⟨V4, ((box b5 97 [.int .i64 e5.kind, .slice A11 e5.elems.length c10, .slice A12 e5.kids.length c11, .slice A13 e5.seps.length c12, .slice A14 e5.tids.length c13]) :: (box b4 131 [.int .i64 x7, .int .i64 x8, .int .i64 x9, .int .i64 x10, .int .i64 x11, .int .i64 x12, .int .i64 x13, .int .i64 x14, .bool x15, .bool x16]) :: (box b3 128 [.int .i64 p0.root, .slice A1 p0.nodes.length c1, .slice A6 ((x2.set x5.toNat true).length) ((p0.nodes.length : Int).toNat), .int .i64 x3, .int .i64 z8]) :: (row 4 eBool A6 ((p0.nodes.length : Int).toNat) (x2.set x5.toNat true)) :: G1), hh, ?_⟩
           clear hh
           refine T.nil ?_
           cases hX3
           exact fun a w' hf hh => And.intro (((((Fr.nil hf).pick hf 9 rfl).pick hf 7 rfl).pick hf 2 rfl).pick hf 0 rfl) (hh.sub (.cons_cons _ (.cons_cons _ (.cons_cons _ (.cons_cons _ (List.Sublist.refl _))))))
         ·
          rw [hc10, cond_false] at hX3
          refine T.skip_code ?_
          cases hX3
          exact fun a w' hf hh => And.intro (((((Fr.nil hf).pick hf 9 rfl).pick hf 7 rfl).pick hf 2 rfl).pick hf 0 rfl) (hh.sub (.cons_cons _ (.cons_cons _ (.cons_cons _ (.cons_cons _ (List.Sublist.refl _))))))
       ·
        rintro a w' ⟨hf, hh⟩
        refine (?_ : T 175 w V4 ((box b5 97 [.int .i64 e5.kind, .slice A11 e5.elems.length c10, .slice A12 e5.kids.length c11, .slice A13 e5.seps.length c12, .slice A14 e5.tids.length c13]) :: (box b4 131 [.int .i64 x7, .int .i64 x8, .int .i64 x9, .int .i64 x10, .int .i64 x11, .int .i64 x12, .int .i64 x13, .int .i64 x14, .bool x15, .bool x16]) :: (box b3 128 [.int .i64 p0.root, .slice A1 p0.nodes.length c1, .slice A6 ((x2.set x5.toNat true).length) ((p0.nodes.length : Int).toNat), .int .i64 x3, .int .i64 z7]) :: (row 4 eBool A6 ((p0.nodes.length : Int).toNat) (x2.set x5.toNat true)) :: G1) [(0, .pointer (some ⟨b3, 0, none⟩)), (2, .int .i64 x6), (7, .pointer (some ⟨b4, 0, none⟩)), (9, .pointer (some ⟨b5, 0, none⟩))] _) a w' hf hh
        clear hf hh
        refine T.seq ?_
        refine T.seq ?_
        refine T.region ?_
        refine T.pure (.pointer (some ⟨b5, 0, none⟩)) (by kernel_rfl) (fun _ => by kernel_rfl) ?_
        refine T.look (.int .i64 e5.kind) (by kernel_rfl) (fun w' hh => exec_load1 rfl rfl (by kernel_rfl) (hh.cellBox (i := 0) (by rfl) 0)) ?_
        refine T.pure (.bool (e5.kind == 1)) (by kernel_rfl) (fun _ => by kernel_rfl) ?_
        refine T.nil ?_
        refine T.cond (e5.kind == 1) (by kernel_rfl) (by kernel_rfl) (fun hc12 => ?_) (fun hc12 => ?_)
        ·
         rw [hc12, cond_true] at hS1
         obtain ⟨z9, hX5, hS1⟩ := Option.bind_eq_some_iff.1 hS1
         refine T.cut (fun a w' => Fr 175 [(0, .pointer (some ⟨b3, 0, none⟩)), (2, .int .i64 x6), (7, .pointer (some ⟨b4, 0, none⟩)), (9, .pointer (some ⟨b5, 0, none⟩))] a ∧ Hp w V4 ((box b5 97 [.int .i64 e5.kind, .slice A11 e5.elems.length c10, .slice A12 e5.kids.length c11, .slice A13 e5.seps.length c12, .slice A14 e5.tids.length c13]) :: (box b4 131 [.int .i64 x7, .int .i64 x8, .int .i64 x9, .int .i64 x10, .int .i64 x11, .int .i64 x12, .int .i64 x13, .int .i64 x14, .bool x15, .bool x16]) :: (box b3 128 [.int .i64 p0.root, .slice A1 p0.nodes.length c1, .slice A6 ((x2.set x5.toNat true).length) ((p0.nodes.length : Int).toNat), .int .i64 z9, .int .i64 z7]) :: (row 4 eBool A6 ((p0.nodes.length : Int).toNat) (x2.set x5.toNat true)) :: G1) w') ?_ ?_
         ·
          refine T.seq ?_
          refine T.region ?_
          refine T.pure (.pointer (some ⟨b3, 0, none⟩)) (by kernel_rfl) (fun _ => by kernel_rfl) ?_
          refine T.pure (.pointer (some ⟨b3, 0, none⟩)) (by kernel_rfl) (fun _ => by kernel_rfl) ?_
          refine T.pure (.pointer (some ⟨b3, 3, none⟩)) (by kernel_rfl) (fun _ => by kernel_rfl) ?_
          refine T.look (.int .i64 x3) (by kernel_rfl) (fun w' hh => exec_load1 rfl rfl (by kernel_rfl) (hh.cellBox (i := 2) (by rfl) 3)) ?_
          refine T.pure (.bool (decide (x3 < 0))) (by kernel_rfl) (fun _ => by kernel_rfl) ?_
          refine T.nil ?_
          refine T.cond (decide (x3 < 0)) (by kernel_rfl) (by kernel_rfl) (fun hc13 => ?_) (fun hc13 => ?_)
          ·
           rw [hc13, cond_true] at hX5
           refine T.region ?_
           refine T.pure (.pointer (some ⟨b3, 0, none⟩)) (by kernel_rfl) (fun _ => by kernel_rfl) ?_
           refine T.pure (.int .i64 x6) (by kernel_rfl) (fun _ => by kernel_rfl) ?_
           refine T.pure (.pointer (some ⟨b3, 0, none⟩)) (by kernel_rfl) (fun _ => by kernel_rfl) ?_
           refine T.pure (.pointer (some ⟨b3, 3, none⟩)) (by kernel_rfl) (fun _ => by kernel_rfl) ?_
           refine T.step (W1.store 2 [.int .i64 p0.root, .slice A1 p0.nodes.length c1, .slice A6 ((x2.set x5.toNat true).length) ((p0.nodes.length : Int).toNat), .int .i64 x6, .int .i64 z7] ((box b5 97 [.int .i64 e5.kind, .slice A11 e5.elems.length c10, .slice A12 e5.kids.length c11, .slice A13 e5.seps.length c12, .slice A14 e5.tids.length c13]) :: (box b4 131 [.int .i64 x7, .int .i64 x8, .int .i64 x9, .int .i64 x10, .int .i64 x11, .int .i64 x12, .int .i64 x13, .int .i64 x14, .bool x15, .bool x16]) :: (box b3 128 [.int .i64 p0.root, .slice A1 p0.nodes.length c1, .slice A6 ((x2.set x5.toNat true).length) ((p0.nodes.length : Int).toNat), .int .i64 x6, .int .i64 z7]) :: (row 4 eBool A6 ((p0.nodes.length : Int).toNat) (x2.set x5.toNat true)) :: G1) (by rfl) rfl (by kernel_rfl) (fun w' hw => exec_store (vs := [.int .i64 x6]) rfl rfl rfl rfl (by kernel_rfl) (one_of rfl) (by simp) rfl hw) ?_)
           refine T.nil ?_
           cases hX5
           exact fun a w' hf hh => And.intro (((((Fr.nil hf).pick hf 9 rfl).pick hf 7 rfl).pick hf 2 rfl).pick hf 0 rfl) (hh.sub (.cons_cons _ (.cons_cons _ (.cons_cons _ (.cons_cons _ (List.Sublist.refl _))))))
          ·
           rw [hc13, cond_false] at hX5
           refine T.skip_code ?_
           cases hX5
           exact fun a w' hf hh => And.intro (((((Fr.nil hf).pick hf 9 rfl).pick hf 7 rfl).pick hf 2 rfl).pick hf 0 rfl) (hh.sub (.cons_cons _ (.cons_cons _ (.cons_cons _ (.cons_cons _ (List.Sublist.refl _))))))
         ·
          rintro a w' ⟨hf, hh⟩
          refine (?_ : T 175 w V4 ((box b5 97 [.int .i64 e5.kind, .slice A11 e5.elems.length c10, .slice A12 e5.kids.length c11, .slice A13 e5.seps.length c12, .slice A14 e5.tids.length c13]) :: (box b4 131 [.int .i64 x7, .int .i64 x8, .int .i64 x9, .int .i64 x10, .int .i64 x11, .int .i64 x12, .int .i64 x13, .int .i64 x14, .bool x15, .bool x16]) :: (box b3 128 [.int .i64 p0.root, .slice A1 p0.nodes.length c1, .slice A6 ((x2.set x5.toNat true).length) ((p0.nodes.length : Int).toNat), .int .i64 z9, .int .i64 z7]) :: (row 4 eBool A6 ((p0.nodes.length : Int).toNat) (x2.set x5.toNat true)) :: G1) [(0, .pointer (some ⟨b3, 0, none⟩)), (2, .int .i64 x6), (7, .pointer (some ⟨b4, 0, none⟩)), (9, .pointer (some ⟨b5, 0, none⟩))] _) a w' hf hh
          clear hf hh
          obtain ⟨z10, hX6, hS1⟩ := Option.bind_eq_some_iff.1 hS1
          refine T.cut (fun a w' => Fr 175 [(0, .pointer (some ⟨b3, 0, none⟩)), (7, .pointer (some ⟨b4, 0, none⟩)), (9, .pointer (some ⟨b5, 0, none⟩))] a ∧ Hp w V4 ((box b5 97 [.int .i64 e5.kind, .slice A11 e5.elems.length c10, .slice A12 e5.kids.length c11, .slice A13 e5.seps.length c12, .slice A14 e5.tids.length c13]) :: (box b4 131 [.int .i64 x7, .int .i64 x8, .int .i64 x9, .int .i64 x10, .int .i64 x11, .int .i64 x12, .int .i64 x13, .int .i64 x14, .bool x15, .bool x16]) :: (box b3 128 [.int .i64 p0.root, .slice A1 p0.nodes.length c1, .slice A6 ((x2.set x5.toNat true).length) ((p0.nodes.length : Int).toNat), .int .i64 z9, .int .i64 z10]) :: (row 4 eBool A6 ((p0.nodes.length : Int).toNat) (x2.set x5.toNat true)) :: G1) w') ?_ ?_
          ·
           refine T.seq ?_
           refine T.region ?_
           refine T.pure (.pointer (some ⟨b3, 0, none⟩)) (by kernel_rfl) (fun _ => by kernel_rfl) ?_
           refine T.pure (.pointer (some ⟨b3, 0, none⟩)) (by kernel_rfl) (fun _ => by kernel_rfl) ?_
           refine T.pure (.pointer (some ⟨b3, 3, none⟩)) (by kernel_rfl) (fun _ => by kernel_rfl) ?_
           refine T.look (.int .i64 z9) (by kernel_rfl) (fun w' hh => exec_load1 rfl rfl (by kernel_rfl) (hh.cellBox (i := 2) (by rfl) 3)) ?_
           refine T.pure (.int .i64 x6) (by kernel_rfl) (fun _ => by kernel_rfl) ?_
           refine T.pure (.bool (z9 != x6)) (by kernel_rfl) (fun _ => by kernel_rfl) ?_
           refine T.nil ?_
           refine T.cond (z9 != x6) (by kernel_rfl) (by kernel_rfl) (fun hc14 => ?_) (fun hc14 => ?_)
           ·
            rw [hc14, cond_true] at hX6
            refine T.region ?_
            refine T.pure (.pointer (some ⟨b3, 0, none⟩)) (by kernel_rfl) (fun _ => by kernel_rfl) ?_
            obtain ⟨z11, hX7, hX6⟩ := Option.bind_eq_some_iff.1 hX6
            refine T.step (W1.within 75 [.pointer (some ⟨b3, 0, none⟩), .int .i64 3] (fun v w' => v = .tuple #[] ∧ Hp w V4 ((box b5 97 [.int .i64 e5.kind, .slice A11 e5.elems.length c10, .slice A12 e5.kids.length c11, .slice A13 e5.seps.length c12, .slice A14 e5.tids.length c13]) :: (box b4 131 [.int .i64 x7, .int .i64 x8, .int .i64 x9, .int .i64 x10, .int .i64 x11, .int .i64 x12, .int .i64 x13, .int .i64 x14, .bool x15, .bool x16]) :: (box b3 128 [.int .i64 p0.root, .slice A1 p0.nodes.length c1, .slice A6 ((x2.set x5.toNat true).length) ((p0.nodes.length : Int).toNat), .int .i64 z9, .int .i64 z11]) :: (row 4 eBool A6 ((p0.nodes.length : Int).toNat) (x2.set x5.toNat true)) :: G1) w') Try.func75 rfl rfl (by kernel_rfl) (fun _ => by kernel_rfl) rfl ?_ ?_)
            ·
             refine T.seq ?_
             refine T.region ?_
             refine T.pure (.pointer (some ⟨b3, 0, none⟩)) (by kernel_rfl) (fun _ => by kernel_rfl) ?_
             refine T.pure (.pointer (some ⟨b3, 0, none⟩)) (by kernel_rfl) (fun _ => by kernel_rfl) ?_
             refine T.pure (.pointer (some ⟨b3, 4, none⟩)) (by kernel_rfl) (fun _ => by kernel_rfl) ?_
             refine T.look (.int .i64 z7) (by kernel_rfl) (fun w' hh => exec_load1 rfl rfl (by kernel_rfl) (hh.cellBox (i := 2) (by rfl) 4)) ?_
             refine T.pure (.bool (z7 == 0)) (by kernel_rfl) (fun _ => by kernel_rfl) ?_
             refine T.nil ?_
             refine T.cond (z7 == 0) (by kernel_rfl) (by kernel_rfl) (fun hc15 => ?_) (fun hc15 => ?_)
             ·
              rw [hc15, cond_true] at hX7
              refine T.region ?_
              refine T.pure (.pointer (some ⟨b3, 0, none⟩)) (by kernel_rfl) (fun _ => by kernel_rfl) ?_
              refine T.pure (.int .i64 3) (by kernel_rfl) (fun _ => by kernel_rfl) ?_
              refine T.pure (.pointer (some ⟨b3, 0, none⟩)) (by kernel_rfl) (fun _ => by kernel_rfl) ?_
              refine T.pure (.pointer (some ⟨b3, 4, none⟩)) (by kernel_rfl) (fun _ => by kernel_rfl) ?_
              refine T.step (W1.store 2 [.int .i64 p0.root, .slice A1 p0.nodes.length c1, .slice A6 ((x2.set x5.toNat true).length) ((p0.nodes.length : Int).toNat), .int .i64 z9, .int .i64 3] ((box b5 97 [.int .i64 e5.kind, .slice A11 e5.elems.length c10, .slice A12 e5.kids.length c11, .slice A13 e5.seps.length c12, .slice A14 e5.tids.length c13]) :: (box b4 131 [.int .i64 x7, .int .i64 x8, .int .i64 x9, .int .i64 x10, .int .i64 x11, .int .i64 x12, .int .i64 x13, .int .i64 x14, .bool x15, .bool x16]) :: (box b3 128 [.int .i64 p0.root, .slice A1 p0.nodes.length c1, .slice A6 ((x2.set x5.toNat true).length) ((p0.nodes.length : Int).toNat), .int .i64 z9, .int .i64 3]) :: (row 4 eBool A6 ((p0.nodes.length : Int).toNat) (x2.set x5.toNat true)) :: G1) (by rfl) rfl (by kernel_rfl) (fun w' hw => exec_store (vs := [.int .i64 3]) rfl rfl rfl rfl (by kernel_rfl) (one_of rfl) (by simp) rfl hw) ?_)
              refine T.nil ?_
              cases hX7
              repeat first | refine T.unthen ?_ | refine T.unblock ?_
              exact T.end0 rfl fun w' hh => ⟨_, rfl, And.intro rfl (hh.sub (.cons_cons _ (.cons_cons _ (.cons_cons _ (.cons_cons _ (List.Sublist.refl _))))))⟩
             ·
              rw [hc15, cond_false] at hX7
              refine T.skip_code ?_
              cases hX7
              repeat first | refine T.unthen ?_ | refine T.unblock ?_
              exact T.end0 rfl fun w' hh => ⟨_, rfl, And.intro rfl (hh.sub (.cons_cons _ (.cons_cons _ (.cons_cons _ (.cons_cons _ (List.Sublist.refl _))))))⟩
            ·
             rintro v w' ⟨rfl, hh⟩
             refine ⟨V4, ((box b5 97 [.int .i64 e5.kind, .slice A11 e5.elems.length c10, .slice A12 e5.kids.length c11, .slice A13 e5.seps.length c12, .slice A14 e5.tids.length c13]) :: (box b4 131 [.int .i64 x7, .int .i64 x8, .int .i64 x9, .int .i64 x10, .int .i64 x11, .int .i64 x12, .int .i64 x13, .int .i64 x14, .bool x15, .bool x16]) :: (box b3 128 [.int .i64 p0.root, .slice A1 p0.nodes.length c1, .slice A6 ((x2.set x5.toNat true).length) ((p0.nodes.length : Int).toNat), .int .i64 z9, .int .i64 z11]) :: (row 4 eBool A6 ((p0.nodes.length : Int).toNat) (x2.set x5.toNat true)) :: G1), hh, ?_⟩
             clear hh
             refine T.nil ?_
             cases hX6
             exact fun a w' hf hh => And.intro ((((Fr.nil hf).pick hf 9 rfl).pick hf 7 rfl).pick hf 0 rfl) (hh.sub (.cons_cons _ (.cons_cons _ (.cons_cons _ (.cons_cons _ (List.Sublist.refl _))))))
           ·
            rw [hc14, cond_false] at hX6
            refine T.skip_code ?_
            cases hX6
            exact fun a w' hf hh => And.intro ((((Fr.nil hf).pick hf 9 rfl).pick hf 7 rfl).pick hf 0 rfl) (hh.sub (.cons_cons _ (.cons_cons _ (.cons_cons _ (.cons_cons _ (List.Sublist.refl _))))))
          ·
           rintro a w' ⟨hf, hh⟩
           refine (?_ : T 175 w V4 ((box b5 97 [.int .i64 e5.kind, .slice A11 e5.elems.length c10, .slice A12 e5.kids.length c11, .slice A13 e5.seps.length c12, .slice A14 e5.tids.length c13]) :: (box b4 131 [.int .i64 x7, .int .i64 x8, .int .i64 x9, .int .i64 x10, .int .i64 x11, .int .i64 x12, .int .i64 x13, .int .i64 x14, .bool x15, .bool x16]) :: (box b3 128 [.int .i64 p0.root, .slice A1 p0.nodes.length c1, .slice A6 ((x2.set x5.toNat true).length) ((p0.nodes.length : Int).toNat), .int .i64 z9, .int .i64 z10]) :: (row 4 eBool A6 ((p0.nodes.length : Int).toNat) (x2.set x5.toNat true)) :: G1) [(0, .pointer (some ⟨b3, 0, none⟩)), (7, .pointer (some ⟨b4, 0, none⟩)), (9, .pointer (some ⟨b5, 0, none⟩))] _) a w' hf hh
           clear hf hh
           refine T.seq ?_
           refine T.seq ?_
           refine T.region ?_
           refine T.pure (.pointer (some ⟨b5, 1, none⟩)) (by kernel_rfl) (fun _ => by kernel_rfl) ?_
           refine T.look (.slice A11 e5.elems.length c10) (by kernel_rfl) (fun w' hh => exec_load1 rfl rfl (by kernel_rfl) (hh.cellBox (i := 0) (by rfl) 1)) ?_
           refine T.pure (.int .i64 (e5.elems.length : Int)) (by kernel_rfl) (fun _ => by kernel_rfl) ?_
           refine T.pure (.int .i64 0) (by kernel_rfl) (fun _ => by kernel_rfl) ?_
           refine T.nil ?_
           obtain ⟨z12, hz3, hS1⟩ := Option.bind_eq_some_iff.1 hS1
           refine T.mid (fun a w' => ∃ (V7 : View), View.le V4 V7 ∧ Fr 175 [(9, .pointer (some ⟨b5, 0, none⟩))] a ∧ Hp w V7 ((box b5 97 [.int .i64 e5.kind, .slice A11 e5.elems.length c10, .slice A12 e5.kids.length c11, .slice A13 e5.seps.length c12, .slice A14 e5.tids.length c13]) :: (box b3 128 [.int .i64 p0.root, .slice A1 p0.nodes.length c1, .slice A6 ((x2.set x5.toNat true).length) ((p0.nodes.length : Int).toNat), .int .i64 z9, .int .i64 z12]) :: (row 4 eBool A6 ((p0.nodes.length : Int).toNat) (x2.set x5.toNat true)) :: G1) w') ?_ ?_
           ·
            refine T.block ?_
            refine T.iter (fun s1 a w' => ∃ (x17 : Int) (x18 : Int), s1 = (x17, x18) ∧ ∃ (V6 : View), View.le V4 V6 ∧ Fr 175 [(0, .pointer (some ⟨b3, 0, none⟩)), (7, .pointer (some ⟨b4, 0, none⟩)), (9, .pointer (some ⟨b5, 0, none⟩)), (104, .slice A11 e5.elems.length c10), (105, .int .i64 (e5.elems.length : Int)), (106, .int .i64 x18)] a ∧ Hp w V6 ((box b5 97 [.int .i64 e5.kind, .slice A11 e5.elems.length c10, .slice A12 e5.kids.length c11, .slice A13 e5.seps.length c12, .slice A14 e5.tids.length c13]) :: (box b4 131 [.int .i64 x7, .int .i64 x8, .int .i64 x9, .int .i64 x10, .int .i64 x11, .int .i64 x12, .int .i64 x13, .int .i64 x14, .bool x15, .bool x16]) :: (box b3 128 [.int .i64 p0.root, .slice A1 p0.nodes.length c1, .slice A6 ((x2.set x5.toNat true).length) ((p0.nodes.length : Int).toNat), .int .i64 z9, .int .i64 x17]) :: (row 4 eBool A6 ((p0.nodes.length : Int).toNat) (x2.set x5.toNat true)) :: G1) w') hz3 ?_ ?_
            ·
             exact fun a w' hf hh => Exists.intro z10 (Exists.intro 0 (And.intro rfl (Exists.intro V4 (And.intro (View.le_refl _) (And.intro (((((((Fr.nil hf).pick hf 106 rfl).pick hf 105 rfl).pick hf 104 rfl).pick hf 9 rfl).pick hf 7 rfl).pick hf 0 rfl) (hh.sub (.cons_cons _ (.cons_cons _ (.cons_cons _ (.cons_cons _ (List.Sublist.refl _)))))))))))
            ·
             rintro s1 y2 hY2 hr5 a w' ⟨x17, x18, rfl, V6, hV6, hf, hh⟩
             refine (?_ : T 175 w V6 ((box b5 97 [.int .i64 e5.kind, .slice A11 e5.elems.length c10, .slice A12 e5.kids.length c11, .slice A13 e5.seps.length c12, .slice A14 e5.tids.length c13]) :: (box b4 131 [.int .i64 x7, .int .i64 x8, .int .i64 x9, .int .i64 x10, .int .i64 x11, .int .i64 x12, .int .i64 x13, .int .i64 x14, .bool x15, .bool x16]) :: (box b3 128 [.int .i64 p0.root, .slice A1 p0.nodes.length c1, .slice A6 ((x2.set x5.toNat true).length) ((p0.nodes.length : Int).toNat), .int .i64 z9, .int .i64 x17]) :: (row 4 eBool A6 ((p0.nodes.length : Int).toNat) (x2.set x5.toNat true)) :: G1) [(0, .pointer (some ⟨b3, 0, none⟩)), (7, .pointer (some ⟨b4, 0, none⟩)), (9, .pointer (some ⟨b5, 0, none⟩)), (104, .slice A11 e5.elems.length c10), (105, .int .i64 (e5.elems.length : Int)), (106, .int .i64 x18)] _) a w' hf hh
             clear hf hh
             try dsimp only at hY2
             refine T.seq ?_
             refine T.region ?_
             refine T.pure (.bool (decide (x18 < (e5.elems.length : Int)))) (by kernel_rfl) (fun _ => by kernel_rfl) ?_
             refine T.nil ?_
             refine T.seq ?_
             refine T.cond (decide (x18 < (e5.elems.length : Int))) (by kernel_rfl) (by kernel_rfl) (fun hc16 => ?_) (fun hc16 => ?_)
             ·
              rw [hc16, cond_true] at hY2
              refine T.skip_code ?_
              obtain ⟨z13, hX8, hY2⟩ := Option.bind_eq_some_iff.1 hY2
              refine T.cut (fun a w' => ∃ (V8 : View), View.le V6 V8 ∧ Fr 175 [(0, .pointer (some ⟨b3, 0, none⟩)), (7, .pointer (some ⟨b4, 0, none⟩)), (9, .pointer (some ⟨b5, 0, none⟩)), (104, .slice A11 e5.elems.length c10), (105, .int .i64 (e5.elems.length : Int)), (106, .int .i64 x18)] a ∧ Hp w V8 ((box b5 97 [.int .i64 e5.kind, .slice A11 e5.elems.length c10, .slice A12 e5.kids.length c11, .slice A13 e5.seps.length c12, .slice A14 e5.tids.length c13]) :: (box b4 131 [.int .i64 x7, .int .i64 x8, .int .i64 x9, .int .i64 x10, .int .i64 x11, .int .i64 x12, .int .i64 x13, .int .i64 x14, .bool x15, .bool x16]) :: (box b3 128 [.int .i64 p0.root, .slice A1 p0.nodes.length c1, .slice A6 ((x2.set x5.toNat true).length) ((p0.nodes.length : Int).toNat), .int .i64 z9, .int .i64 z13]) :: (row 4 eBool A6 ((p0.nodes.length : Int).toNat) (x2.set x5.toNat true)) :: G1) w') ?_ ?_
              ·
               refine T.block ?_
               refine T.seq ?_
               refine T.region ?_
               obtain ⟨e6, hb8, hX8⟩ := Option.bind_eq_some_iff.1 hX8
               obtain ⟨hi16, hi17, hi18⟩ := idx_some hb8
               refine T.look (.pointer (some ((sadr A11).add (x18.toNat * 6)))) (by kernel_rfl) (fun w' hh => exec_indexAddr (e := 28) (s := 6) rfl rfl rfl (by kernel_rfl) (by kernel_rfl) hi16 hi17 ((SlOk.mono hs10 hV6).some_ hi18 (by decide))) ?_
               refine T.look (.agg #[.int .i64 e6.key.pfs, .int .i64 e6.key.obj, .int .i64 e6.key.off, .int .i64 e6.made, .int .i64 e6.gone, .string e6.val]) (by kernel_rfl) (fun w' hh => exec_loadN (cs := [.int .i64 e6.key.pfs, .int .i64 e6.key.obj, .int .i64 e6.key.off, .int .i64 e6.made, .int .i64 e6.gone, .string e6.val]) rfl rfl (by kernel_rfl) (by kernel_rfl) (fun j u hj => (hh.cell_view (SlOk.cellF (E := eElem) (SlOk.mono hs10 hV6) hi18 j (fun _ _ _ h => h) hj)))) ?_
               refine T.step (W1.new 28 [.int .i64 0, .int .i64 0, .int .i64 0, .int .i64 0, .int .i64 0, .string (ByteArray.mk #[])] (fun b => .pointer (some ⟨b, 0, none⟩)) (by kernel_rfl) (fun _ => by kernel_rfl) (fun b6 => ?_))
               refine T.step (W1.store 0 [.int .i64 e6.key.pfs, .int .i64 e6.key.obj, .int .i64 e6.key.off, .int .i64 e6.made, .int .i64 e6.gone, .string e6.val] ((box b6 28 [.int .i64 e6.key.pfs, .int .i64 e6.key.obj, .int .i64 e6.key.off, .int .i64 e6.made, .int .i64 e6.gone, .string e6.val]) :: (box b5 97 [.int .i64 e5.kind, .slice A11 e5.elems.length c10, .slice A12 e5.kids.length c11, .slice A13 e5.seps.length c12, .slice A14 e5.tids.length c13]) :: (box b4 131 [.int .i64 x7, .int .i64 x8, .int .i64 x9, .int .i64 x10, .int .i64 x11, .int .i64 x12, .int .i64 x13, .int .i64 x14, .bool x15, .bool x16]) :: (box b3 128 [.int .i64 p0.root, .slice A1 p0.nodes.length c1, .slice A6 ((x2.set x5.toNat true).length) ((p0.nodes.length : Int).toNat), .int .i64 z9, .int .i64 x17]) :: (row 4 eBool A6 ((p0.nodes.length : Int).toNat) (x2.set x5.toNat true)) :: G1) (by rfl) rfl (by kernel_rfl) (fun w' hw => exec_store (vs := [.int .i64 e6.key.pfs, .int .i64 e6.key.obj, .int .i64 e6.key.off, .int .i64 e6.made, .int .i64 e6.gone, .string e6.val]) rfl rfl rfl rfl (by kernel_rfl) (one_of rfl) (by simp) rfl hw) ?_)
               refine T.nil ?_
               refine T.seq ?_
               refine T.held [box b6 28 [.int .i64 e6.key.pfs, .int .i64 e6.key.obj, .int .i64 e6.key.off, .int .i64 e6.made, .int .i64 e6.gone, .string e6.val], box b5 97 [.int .i64 e5.kind, .slice A11 e5.elems.length c10, .slice A12 e5.kids.length c11, .slice A13 e5.seps.length c12, .slice A14 e5.tids.length c13], box b4 131 [.int .i64 x7, .int .i64 x8, .int .i64 x9, .int .i64 x10, .int .i64 x11, .int .i64 x12, .int .i64 x13, .int .i64 x14, .bool x15, .bool x16], box b3 128 [.int .i64 p0.root, .slice A1 p0.nodes.length c1, .slice A6 ((x2.set x5.toNat true).length) ((p0.nodes.length : Int).toNat), .int .i64 z9, .int .i64 x17], row 4 eBool A6 ((p0.nodes.length : Int).toNat) (x2.set x5.toNat true)] (by kernel_rfl) ?_
               refine TA.take 0 (.agg #[.int .i64 x7, .int .i64 x8, .int .i64 x9, .int .i64 x10, .int .i64 x11, .int .i64 x12, .int .i64 x13, .int .i64 x14, .bool x15, .bool x16]) rfl (by kernel_rfl) (by kernel_rfl) (by kernel_rfl) (fun _ _ _ h => h) (Hp.old (View.le_refl _) (View.le_trans (View.le_trans hV2 hV4) hV6) (.cons_cons _ (.cons_cons _ (.cons_cons _ (.cons_cons _ (.cons_cons _ (List.nil_sublist _)))))) (OldAll.box (OldAll.box (OldAll.box (OldAll.box (OldAll.row (fun _ _ _ _ h => h) OldAll.nil)))))) (by kernel_rfl) (fun w' hh => exec_loadN (cs := [.int .i64 x7, .int .i64 x8, .int .i64 x9, .int .i64 x10, .int .i64 x11, .int .i64 x12, .int .i64 x13, .int .i64 x14, .bool x15, .bool x16]) rfl rfl (by kernel_rfl) (by kernel_rfl) (fun j u hj => (hh.box_at (i := 2) (cs := [.int .i64 x7, .int .i64 x8, .int .i64 x9, .int .i64 x10, .int .i64 x11, .int .i64 x12, .int .i64 x13, .int .i64 x14, .bool x15, .bool x16]) (by rfl) 0 j).trans (seg_at (n := 10) (by rfl) hj))) ?_
               refine TA.take 1 (.agg #[.int .i64 e6.key.pfs, .int .i64 e6.key.obj, .int .i64 e6.key.off, .int .i64 e6.made, .int .i64 e6.gone, .string e6.val]) rfl (by kernel_rfl) (by kernel_rfl) (by kernel_rfl) (fun _ _ _ h => h) (Hp.old (View.le_refl _) (View.le_trans (View.le_trans hV2 hV4) hV6) (.cons_cons _ (.cons_cons _ (.cons_cons _ (.cons_cons _ (.cons_cons _ (List.nil_sublist _)))))) (OldAll.box (OldAll.box (OldAll.box (OldAll.box (OldAll.row (fun _ _ _ _ h => h) OldAll.nil)))))) (by kernel_rfl) (fun w' hh => exec_loadN (cs := [.int .i64 e6.key.pfs, .int .i64 e6.key.obj, .int .i64 e6.key.off, .int .i64 e6.made, .int .i64 e6.gone, .string e6.val]) rfl rfl (by kernel_rfl) (by kernel_rfl) (fun j u hj => (hh.box_at (i := 0) (cs := [.int .i64 e6.key.pfs, .int .i64 e6.key.obj, .int .i64 e6.key.off, .int .i64 e6.made, .int .i64 e6.gone, .string e6.val]) (by rfl) 0 j).trans (seg_at (n := 6) (by rfl) hj))) ?_
               refine TA.all [2] (by kernel_rfl) rfl ⟨?_, trivial⟩
               obtain ⟨r3, hb9, hX8⟩ := Option.bind_eq_some_iff.1 hX8
               refine TA.br rfl (W1.call (vAg eSpot) r3 22 #[.agg #[.int .i64 e6.key.pfs, .int .i64 e6.key.obj, .int .i64 e6.key.off, .int .i64 e6.made, .int .i64 e6.gone, .string e6.val]] (by kernel_rfl) (fun _ => by kernel_rfl) (fun w' hh => elem_Spot_l e6 r3 hb9 w' ) ?_)
               intro u V9 hV9 hu
               obtain rfl := sureSpot _ _ _ hu
               refine TA.on (Hp.old hV9 (View.le_trans (View.le_trans hV2 hV4) hV6) (.cons_cons _ (.cons_cons _ (.cons_cons _ (.cons_cons _ (.cons_cons _ (List.nil_sublist _)))))) (OldAll.box (OldAll.box (OldAll.box (OldAll.box (OldAll.row (fun _ _ _ _ h => h) OldAll.nil)))))) ?_
               refine TA.all [3] (by kernel_rfl) rfl ⟨?_, trivial⟩
               obtain ⟨z14, hX9, hX8⟩ := Option.bind_eq_some_iff.1 hX8
               refine TA.br rfl (W1.within 92 [.agg #[.int .i64 x7, .int .i64 x8, .int .i64 x9, .int .i64 x10, .int .i64 x11, .int .i64 x12, .int .i64 x13, .int .i64 x14, .bool x15, .bool x16], .agg #[.int .i64 r3.key.pfs, .int .i64 r3.key.obj, .int .i64 r3.key.off, .int .i64 r3.made]] (fun v w' => ∃ (V10 : View), View.le V9 V10 ∧ v = .bool z14 ∧ Hp w V10 ((box b6 28 [.int .i64 e6.key.pfs, .int .i64 e6.key.obj, .int .i64 e6.key.off, .int .i64 e6.made, .int .i64 e6.gone, .string e6.val]) :: (box b5 97 [.int .i64 e5.kind, .slice A11 e5.elems.length c10, .slice A12 e5.kids.length c11, .slice A13 e5.seps.length c12, .slice A14 e5.tids.length c13]) :: (box b4 131 [.int .i64 x7, .int .i64 x8, .int .i64 x9, .int .i64 x10, .int .i64 x11, .int .i64 x12, .int .i64 x13, .int .i64 x14, .bool x15, .bool x16]) :: (box b3 128 [.int .i64 p0.root, .slice A1 p0.nodes.length c1, .slice A6 ((x2.set x5.toNat true).length) ((p0.nodes.length : Int).toNat), .int .i64 z9, .int .i64 x17]) :: (row 4 eBool A6 ((p0.nodes.length : Int).toNat) (x2.set x5.toNat true)) :: G1) w') Try.func92 rfl rfl (by kernel_rfl) (fun _ => by kernel_rfl) rfl ?_ ?_)
               ·
                refine T.seq ?_
                refine T.region ?_
                refine T.step (W1.new 131 [.int .i64 x7, .int .i64 x8, .int .i64 x9, .int .i64 x10, .int .i64 x11, .int .i64 x12, .int .i64 x13, .int .i64 x14, .bool x15, .bool x16] (fun b => .pointer (some ⟨b, 0, none⟩)) (by kernel_rfl) (fun _ => by kernel_rfl) (fun b7 => ?_))
                refine T.step (W1.new 43 [.int .i64 r3.key.pfs, .int .i64 r3.key.obj, .int .i64 r3.key.off, .int .i64 r3.made] (fun b => .pointer (some ⟨b, 0, none⟩)) (by kernel_rfl) (fun _ => by kernel_rfl) (fun b8 => ?_))
                refine T.pure (.bool false) (by kernel_rfl) (fun _ => by kernel_rfl) ?_
                refine T.nil ?_
                obtain ⟨z15, hX10, hX9⟩ := Option.bind_eq_some_iff.1 hX9
                refine T.cut (fun a w' => ∃ (V11 : View), View.le V9 V11 ∧ Fr 27 [(4, .bool z15)] a ∧ Hp w V11 ((box b6 28 [.int .i64 e6.key.pfs, .int .i64 e6.key.obj, .int .i64 e6.key.off, .int .i64 e6.made, .int .i64 e6.gone, .string e6.val]) :: (box b5 97 [.int .i64 e5.kind, .slice A11 e5.elems.length c10, .slice A12 e5.kids.length c11, .slice A13 e5.seps.length c12, .slice A14 e5.tids.length c13]) :: (box b4 131 [.int .i64 x7, .int .i64 x8, .int .i64 x9, .int .i64 x10, .int .i64 x11, .int .i64 x12, .int .i64 x13, .int .i64 x14, .bool x15, .bool x16]) :: (box b3 128 [.int .i64 p0.root, .slice A1 p0.nodes.length c1, .slice A6 ((x2.set x5.toNat true).length) ((p0.nodes.length : Int).toNat), .int .i64 z9, .int .i64 x17]) :: (row 4 eBool A6 ((p0.nodes.length : Int).toNat) (x2.set x5.toNat true)) :: G1) w') ?_ ?_
                ·
                 refine T.region ?_
                 refine T.pure (.pointer (some ⟨b7, 8, none⟩)) (by kernel_rfl) (fun _ => by kernel_rfl) ?_
                 refine T.look (.bool x15) (by kernel_rfl) (fun w' hh => exec_load1 rfl rfl (by kernel_rfl) (hh.cellBox (i := 1) (by rfl) 8)) ?_
                 refine T.pure (.bool (!x15)) (by kernel_rfl) (fun _ => by kernel_rfl) ?_
                 refine T.pure (.bool (!x15)) (by kernel_rfl) (fun _ => by kernel_rfl) ?_
                 cases hg5 : (!x15)
                 ·
                  skip
                  rw [hg5, cond_false] at hX10
                  refine T.pure (.pointer (some ⟨b7, 0, none⟩)) (by kernel_rfl) (fun _ => by kernel_rfl) ?_
                  refine T.look (.agg #[.int .i64 x7, .int .i64 x8, .int .i64 x9, .int .i64 x10]) (by kernel_rfl) (fun w' hh => exec_loadN (cs := [.int .i64 x7, .int .i64 x8, .int .i64 x9, .int .i64 x10]) rfl rfl (by kernel_rfl) (by kernel_rfl) (fun j u hj => (hh.box_at (i := 1) (cs := [.int .i64 x7, .int .i64 x8, .int .i64 x9, .int .i64 x10, .int .i64 x11, .int .i64 x12, .int .i64 x13, .int .i64 x14, .bool x15, .bool x16]) (by rfl) 0 j).trans (seg_at (n := 4) (by rfl) hj))) ?_
                  refine T.look (.agg #[.int .i64 r3.key.pfs, .int .i64 r3.key.obj, .int .i64 r3.key.off, .int .i64 r3.made]) (by kernel_rfl) (fun w' hh => exec_loadN (cs := [.int .i64 r3.key.pfs, .int .i64 r3.key.obj, .int .i64 r3.key.off, .int .i64 r3.made]) rfl rfl (by kernel_rfl) (by kernel_rfl) (fun j u hj => (hh.box_at (i := 0) (cs := [.int .i64 r3.key.pfs, .int .i64 r3.key.obj, .int .i64 r3.key.off, .int .i64 r3.made]) (by rfl) 0 j).trans (seg_at (n := 4) (by rfl) hj))) ?_
                  obtain ⟨r4, hb10, hX10⟩ := Option.bind_eq_some_iff.1 hX10
                  refine T.step (W1.call (vSc eInt) r4 62 #[.agg #[.int .i64 x7, .int .i64 x8, .int .i64 x9, .int .i64 x10], .agg #[.int .i64 r3.key.pfs, .int .i64 r3.key.obj, .int .i64 r3.key.off, .int .i64 r3.made]] (by kernel_rfl) (fun _ => by kernel_rfl) (fun w' hh => key_CmpSpot_l (DSpot.mk (DKey.mk x7 x8 x9) x10) r3 r4 hb10 w' ) ?_)
                  intro u V12 hV12 hu
                  obtain rfl := sureInt _ _ _ hu
                  refine T.pure (.bool (decide (r4 ≤ 0))) (by kernel_rfl) (fun _ => by kernel_rfl) ?_
                  refine T.pure (.bool (decide (r4 ≤ 0))) (by kernel_rfl) (fun _ => by kernel_rfl) ?_
                  refine T.pure (.bool (decide (r4 ≤ 0))) (by kernel_rfl) (fun _ => by kernel_rfl) ?_
                  cases hg6 : decide (r4 ≤ 0)
                  ·
                   skip
                   rw [hg6, cond_false] at hX10
                   refine T.pass (by kernel_rfl) (by kernel_rfl) ?_
                   refine T.pass (by kernel_rfl) (by kernel_rfl) ?_
                   refine T.pass (by kernel_rfl) (by kernel_rfl) ?_
                   refine T.pass (by kernel_rfl) (by kernel_rfl) ?_
                   refine T.pass (by kernel_rfl) (by kernel_rfl) ?_
                   refine T.pass (by kernel_rfl) (by kernel_rfl) ?_
                   refine T.pass (by kernel_rfl) (by kernel_rfl) ?_
                   refine T.pass (by kernel_rfl) (by kernel_rfl) ?_
                   refine T.pass (by kernel_rfl) (by kernel_rfl) ?_
                   refine T.pass (by kernel_rfl) (by kernel_rfl) ?_
                   refine T.pure (.bool false) (by kernel_rfl) (fun _ => by kernel_rfl) ?_
                   refine T.pure (.bool false) (by kernel_rfl) (fun _ => by kernel_rfl) ?_
                   refine T.nil ?_
                   cases hX10
                   exact fun a w' hf hh => Exists.intro V12 (And.intro hV12 (And.intro ((Fr.nil hf).pick hf 4 rfl) (hh.sub (.cons _ (.cons _ (.cons_cons _ (.cons_cons _ (.cons_cons _ (.cons_cons _ (.cons_cons _ (List.Sublist.refl _)))))))))))
                  ·
                   skip
                   rw [hg6, cond_true] at hX10
                   refine T.pure (.pointer (some ⟨b7, 9, none⟩)) (by kernel_rfl) (fun _ => by kernel_rfl) ?_
                   refine T.look (.bool x16) (by kernel_rfl) (fun w' hh => exec_load1 rfl rfl (by kernel_rfl) (hh.cellBox (i := 1) (by rfl) 9)) ?_
                   refine T.pure (.bool (!x16)) (by kernel_rfl) (fun _ => by kernel_rfl) ?_
                   refine T.pure (.bool (!x16)) (by kernel_rfl) (fun _ => by kernel_rfl) ?_
                   cases hg7 : (!x16)
                   ·
                    skip
                    rw [hg7, cond_false] at hX10
                    refine T.look (.agg #[.int .i64 r3.key.pfs, .int .i64 r3.key.obj, .int .i64 r3.key.off, .int .i64 r3.made]) (by kernel_rfl) (fun w' hh => exec_loadN (cs := [.int .i64 r3.key.pfs, .int .i64 r3.key.obj, .int .i64 r3.key.off, .int .i64 r3.made]) rfl rfl (by kernel_rfl) (by kernel_rfl) (fun j u hj => (hh.box_at (i := 0) (cs := [.int .i64 r3.key.pfs, .int .i64 r3.key.obj, .int .i64 r3.key.off, .int .i64 r3.made]) (by rfl) 0 j).trans (seg_at (n := 4) (by rfl) hj))) ?_
                    refine T.pure (.pointer (some ⟨b7, 4, none⟩)) (by kernel_rfl) (fun _ => by kernel_rfl) ?_
                    refine T.look (.agg #[.int .i64 x11, .int .i64 x12, .int .i64 x13, .int .i64 x14]) (by kernel_rfl) (fun w' hh => exec_loadN (cs := [.int .i64 x11, .int .i64 x12, .int .i64 x13, .int .i64 x14]) rfl rfl (by kernel_rfl) (by kernel_rfl) (fun j u hj => (hh.box_at (i := 1) (cs := [.int .i64 x7, .int .i64 x8, .int .i64 x9, .int .i64 x10, .int .i64 x11, .int .i64 x12, .int .i64 x13, .int .i64 x14, .bool x15, .bool x16]) (by rfl) 4 j).trans (seg_at (n := 4) (by rfl) hj))) ?_
                    obtain ⟨r5, hb11, hX10⟩ := Option.bind_eq_some_iff.1 hX10
                    refine T.step (W1.call (vSc eInt) r5 62 #[.agg #[.int .i64 r3.key.pfs, .int .i64 r3.key.obj, .int .i64 r3.key.off, .int .i64 r3.made], .agg #[.int .i64 x11, .int .i64 x12, .int .i64 x13, .int .i64 x14]] (by kernel_rfl) (fun _ => by kernel_rfl) (fun w' hh => key_CmpSpot_l r3 (DSpot.mk (DKey.mk x11 x12 x13) x14) r5 hb11 w' ) ?_)
                    intro u V13 hV13 hu
                    obtain rfl := sureInt _ _ _ hu
                    refine T.pure (.bool (decide (r5 < 0))) (by kernel_rfl) (fun _ => by kernel_rfl) ?_
                    refine T.pure (.bool (decide (r5 < 0))) (by kernel_rfl) (fun _ => by kernel_rfl) ?_
                    refine T.pure (.bool (decide (r5 < 0))) (by kernel_rfl) (fun _ => by kernel_rfl) ?_
                    refine T.pure (.bool (decide (r5 < 0))) (by kernel_rfl) (fun _ => by kernel_rfl) ?_
                    refine T.nil ?_
                    cases hX10
                    exact fun a w' hf hh => Exists.intro V13 (And.intro (View.le_trans hV12 hV13) (And.intro ((Fr.nil hf).pick hf 4 rfl) (hh.sub (.cons _ (.cons _ (.cons_cons _ (.cons_cons _ (.cons_cons _ (.cons_cons _ (.cons_cons _ (List.Sublist.refl _)))))))))))
                   ·
                    skip
                    rw [hg7, cond_true] at hX10
                    refine T.pass (by kernel_rfl) (by kernel_rfl) ?_
                    refine T.pass (by kernel_rfl) (by kernel_rfl) ?_
                    refine T.pass (by kernel_rfl) (by kernel_rfl) ?_
                    refine T.pass (by kernel_rfl) (by kernel_rfl) ?_
                    refine T.pass (by kernel_rfl) (by kernel_rfl) ?_
                    refine T.pure (.bool true) (by kernel_rfl) (fun _ => by kernel_rfl) ?_
                    refine T.pure (.bool true) (by kernel_rfl) (fun _ => by kernel_rfl) ?_
                    refine T.pure (.bool true) (by kernel_rfl) (fun _ => by kernel_rfl) ?_
                    refine T.nil ?_
                    cases hX10
                    exact fun a w' hf hh => Exists.intro V12 (And.intro hV12 (And.intro ((Fr.nil hf).pick hf 4 rfl) (hh.sub (.cons _ (.cons _ (.cons_cons _ (.cons_cons _ (.cons_cons _ (.cons_cons _ (.cons_cons _ (List.Sublist.refl _)))))))))))
                 ·
                  skip
                  rw [hg5, cond_true] at hX10
                  refine T.pass (by kernel_rfl) (by kernel_rfl) ?_
                  refine T.pass (by kernel_rfl) (by kernel_rfl) ?_
                  refine T.pass (by kernel_rfl) (by kernel_rfl) ?_
                  refine T.pass (by kernel_rfl) (by kernel_rfl) ?_
                  refine T.pass (by kernel_rfl) (by kernel_rfl) ?_
                  refine T.pure (.bool true) (by kernel_rfl) (fun _ => by kernel_rfl) ?_
                  refine T.pure (.bool true) (by kernel_rfl) (fun _ => by kernel_rfl) ?_
                  refine T.pure (.pointer (some ⟨b7, 9, none⟩)) (by kernel_rfl) (fun _ => by kernel_rfl) ?_
                  refine T.look (.bool x16) (by kernel_rfl) (fun w' hh => exec_load1 rfl rfl (by kernel_rfl) (hh.cellBox (i := 1) (by rfl) 9)) ?_
                  refine T.pure (.bool (!x16)) (by kernel_rfl) (fun _ => by kernel_rfl) ?_
                  refine T.pure (.bool (!x16)) (by kernel_rfl) (fun _ => by kernel_rfl) ?_
                  cases hg8 : (!x16)
                  ·
                   skip
                   rw [hg8, cond_false] at hX10
                   refine T.look (.agg #[.int .i64 r3.key.pfs, .int .i64 r3.key.obj, .int .i64 r3.key.off, .int .i64 r3.made]) (by kernel_rfl) (fun w' hh => exec_loadN (cs := [.int .i64 r3.key.pfs, .int .i64 r3.key.obj, .int .i64 r3.key.off, .int .i64 r3.made]) rfl rfl (by kernel_rfl) (by kernel_rfl) (fun j u hj => (hh.box_at (i := 0) (cs := [.int .i64 r3.key.pfs, .int .i64 r3.key.obj, .int .i64 r3.key.off, .int .i64 r3.made]) (by rfl) 0 j).trans (seg_at (n := 4) (by rfl) hj))) ?_
                   refine T.pure (.pointer (some ⟨b7, 4, none⟩)) (by kernel_rfl) (fun _ => by kernel_rfl) ?_
                   refine T.look (.agg #[.int .i64 x11, .int .i64 x12, .int .i64 x13, .int .i64 x14]) (by kernel_rfl) (fun w' hh => exec_loadN (cs := [.int .i64 x11, .int .i64 x12, .int .i64 x13, .int .i64 x14]) rfl rfl (by kernel_rfl) (by kernel_rfl) (fun j u hj => (hh.box_at (i := 1) (cs := [.int .i64 x7, .int .i64 x8, .int .i64 x9, .int .i64 x10, .int .i64 x11, .int .i64 x12, .int .i64 x13, .int .i64 x14, .bool x15, .bool x16]) (by rfl) 4 j).trans (seg_at (n := 4) (by rfl) hj))) ?_
                   obtain ⟨r6, hb12, hX10⟩ := Option.bind_eq_some_iff.1 hX10
                   refine T.step (W1.call (vSc eInt) r6 62 #[.agg #[.int .i64 r3.key.pfs, .int .i64 r3.key.obj, .int .i64 r3.key.off, .int .i64 r3.made], .agg #[.int .i64 x11, .int .i64 x12, .int .i64 x13, .int .i64 x14]] (by kernel_rfl) (fun _ => by kernel_rfl) (fun w' hh => key_CmpSpot_l r3 (DSpot.mk (DKey.mk x11 x12 x13) x14) r6 hb12 w' ) ?_)
                   intro u V14 hV14 hu
                   obtain rfl := sureInt _ _ _ hu
                   refine T.pure (.bool (decide (r6 < 0))) (by kernel_rfl) (fun _ => by kernel_rfl) ?_
                   refine T.pure (.bool (decide (r6 < 0))) (by kernel_rfl) (fun _ => by kernel_rfl) ?_
                   refine T.pure (.bool (decide (r6 < 0))) (by kernel_rfl) (fun _ => by kernel_rfl) ?_
                   refine T.pure (.bool (decide (r6 < 0))) (by kernel_rfl) (fun _ => by kernel_rfl) ?_
                   refine T.nil ?_
                   cases hX10
                   exact fun a w' hf hh => Exists.intro V14 (And.intro hV14 (And.intro ((Fr.nil hf).pick hf 4 rfl) (hh.sub (.cons _ (.cons _ (.cons_cons _ (.cons_cons _ (.cons_cons _ (.cons_cons _ (.cons_cons _ (List.Sublist.refl _)))))))))))
                  ·
                   skip
                   rw [hg8, cond_true] at hX10
                   refine T.pass (by kernel_rfl) (by kernel_rfl) ?_
                   refine T.pass (by kernel_rfl) (by kernel_rfl) ?_
                   refine T.pass (by kernel_rfl) (by kernel_rfl) ?_
                   refine T.pass (by kernel_rfl) (by kernel_rfl) ?_
                   refine T.pass (by kernel_rfl) (by kernel_rfl) ?_
                   refine T.pure (.bool true) (by kernel_rfl) (fun _ => by kernel_rfl) ?_
                   refine T.pure (.bool true) (by kernel_rfl) (fun _ => by kernel_rfl) ?_
                   refine T.pure (.bool true) (by kernel_rfl) (fun _ => by kernel_rfl) ?_
                   refine T.nil ?_
                   cases hX10
                   exact fun a w' hf hh => Exists.intro V9 (And.intro (View.le_refl _) (And.intro ((Fr.nil hf).pick hf 4 rfl) (hh.sub (.cons _ (.cons _ (.cons_cons _ (.cons_cons _ (.cons_cons _ (.cons_cons _ (.cons_cons _ (List.Sublist.refl _)))))))))))
                ·
                 rintro a w' ⟨V11, hV11, hf, hh⟩
                 refine (?_ : T 27 w V11 ((box b6 28 [.int .i64 e6.key.pfs, .int .i64 e6.key.obj, .int .i64 e6.key.off, .int .i64 e6.made, .int .i64 e6.gone, .string e6.val]) :: (box b5 97 [.int .i64 e5.kind, .slice A11 e5.elems.length c10, .slice A12 e5.kids.length c11, .slice A13 e5.seps.length c12, .slice A14 e5.tids.length c13]) :: (box b4 131 [.int .i64 x7, .int .i64 x8, .int .i64 x9, .int .i64 x10, .int .i64 x11, .int .i64 x12, .int .i64 x13, .int .i64 x14, .bool x15, .bool x16]) :: (box b3 128 [.int .i64 p0.root, .slice A1 p0.nodes.length c1, .slice A6 ((x2.set x5.toNat true).length) ((p0.nodes.length : Int).toNat), .int .i64 z9, .int .i64 x17]) :: (row 4 eBool A6 ((p0.nodes.length : Int).toNat) (x2.set x5.toNat true)) :: G1) [(4, .bool z15)] _) a w' hf hh
                 clear hf hh
                 cases hX9
                 refine T.ret rfl ?_
                 exact T.ret1 rfl (ResIs.tmp rfl) fun w' hh => ⟨_, rfl, Exists.intro V11 (And.intro hV11 (And.intro rfl (hh.sub (.cons_cons _ (.cons_cons _ (.cons_cons _ (.cons_cons _ (.cons_cons _ (List.Sublist.refl _)))))))))⟩
               ·
                rintro v w' ⟨V10, hV10, rfl, hh⟩
                refine ⟨V10, ((box b6 28 [.int .i64 e6.key.pfs, .int .i64 e6.key.obj, .int .i64 e6.key.off, .int .i64 e6.made, .int .i64 e6.gone, .string e6.val]) :: (box b5 97 [.int .i64 e5.kind, .slice A11 e5.elems.length c10, .slice A12 e5.kids.length c11, .slice A13 e5.seps.length c12, .slice A14 e5.tids.length c13]) :: (box b4 131 [.int .i64 x7, .int .i64 x8, .int .i64 x9, .int .i64 x10, .int .i64 x11, .int .i64 x12, .int .i64 x13, .int .i64 x14, .bool x15, .bool x16]) :: (box b3 128 [.int .i64 p0.root, .slice A1 p0.nodes.length c1, .slice A6 ((x2.set x5.toNat true).length) ((p0.nodes.length : Int).toNat), .int .i64 z9, .int .i64 x17]) :: (row 4 eBool A6 ((p0.nodes.length : Int).toNat) (x2.set x5.toNat true)) :: G1), hh, ?_⟩
                clear hh
                refine TA.on (Hp.old (View.le_trans hV9 hV10) (View.le_trans (View.le_trans hV2 hV4) hV6) (.cons_cons _ (.cons_cons _ (.cons_cons _ (.cons_cons _ (.cons_cons _ (List.nil_sublist _)))))) (OldAll.box (OldAll.box (OldAll.box (OldAll.box (OldAll.row (fun _ _ _ _ h => h) OldAll.nil)))))) ?_
                refine TA.take 4 (.bool (!z14)) rfl (by kernel_rfl) (by kernel_rfl) (by kernel_rfl) (fun _ _ _ h => h) (Hp.old (View.le_trans hV9 hV10) (View.le_trans (View.le_trans hV2 hV4) hV6) (.cons_cons _ (.cons_cons _ (.cons_cons _ (.cons_cons _ (.cons_cons _ (List.nil_sublist _)))))) (OldAll.box (OldAll.box (OldAll.box (OldAll.box (OldAll.row (fun _ _ _ _ h => h) OldAll.nil)))))) (by kernel_rfl) (fun _ _ => by kernel_rfl) ?_
                refine TA.done (by kernel_rfl) ?_
                refine T.cond (!z14) (by kernel_rfl) (by kernel_rfl) (fun hc17 => ?_) (fun hc17 => ?_)
                ·
                 rw [hc17, cond_true] at hX8
                 refine T.region ?_
                 refine T.pure (.pointer (some ⟨b3, 0, none⟩)) (by kernel_rfl) (fun _ => by kernel_rfl) ?_
                 obtain ⟨z16, hX11, hX8⟩ := Option.bind_eq_some_iff.1 hX8
                 refine T.step (W1.within 75 [.pointer (some ⟨b3, 0, none⟩), .int .i64 3] (fun v w' => v = .tuple #[] ∧ Hp w V10 ((box b5 97 [.int .i64 e5.kind, .slice A11 e5.elems.length c10, .slice A12 e5.kids.length c11, .slice A13 e5.seps.length c12, .slice A14 e5.tids.length c13]) :: (box b4 131 [.int .i64 x7, .int .i64 x8, .int .i64 x9, .int .i64 x10, .int .i64 x11, .int .i64 x12, .int .i64 x13, .int .i64 x14, .bool x15, .bool x16]) :: (box b3 128 [.int .i64 p0.root, .slice A1 p0.nodes.length c1, .slice A6 ((x2.set x5.toNat true).length) ((p0.nodes.length : Int).toNat), .int .i64 z9, .int .i64 z16]) :: (row 4 eBool A6 ((p0.nodes.length : Int).toNat) (x2.set x5.toNat true)) :: G1) w') Try.func75 rfl rfl (by kernel_rfl) (fun _ => by kernel_rfl) rfl ?_ ?_)
                 ·
                  refine T.seq ?_
                  refine T.region ?_
                  refine T.pure (.pointer (some ⟨b3, 0, none⟩)) (by kernel_rfl) (fun _ => by kernel_rfl) ?_
                  refine T.pure (.pointer (some ⟨b3, 0, none⟩)) (by kernel_rfl) (fun _ => by kernel_rfl) ?_
                  refine T.pure (.pointer (some ⟨b3, 4, none⟩)) (by kernel_rfl) (fun _ => by kernel_rfl) ?_
                  refine T.look (.int .i64 x17) (by kernel_rfl) (fun w' hh => exec_load1 rfl rfl (by kernel_rfl) (hh.cellBox (i := 3) (by rfl) 4)) ?_
                  refine T.pure (.bool (x17 == 0)) (by kernel_rfl) (fun _ => by kernel_rfl) ?_
                  refine T.nil ?_
                  refine T.cond (x17 == 0) (by kernel_rfl) (by kernel_rfl) (fun hc18 => ?_) (fun hc18 => ?_)
                  ·
                   rw [hc18, cond_true] at hX11
                   refine T.region ?_
                   refine T.pure (.pointer (some ⟨b3, 0, none⟩)) (by kernel_rfl) (fun _ => by kernel_rfl) ?_
                   refine T.pure (.int .i64 3) (by kernel_rfl) (fun _ => by kernel_rfl) ?_
                   refine T.pure (.pointer (some ⟨b3, 0, none⟩)) (by kernel_rfl) (fun _ => by kernel_rfl) ?_
                   refine T.pure (.pointer (some ⟨b3, 4, none⟩)) (by kernel_rfl) (fun _ => by kernel_rfl) ?_
                   refine T.step (W1.store 3 [.int .i64 p0.root, .slice A1 p0.nodes.length c1, .slice A6 ((x2.set x5.toNat true).length) ((p0.nodes.length : Int).toNat), .int .i64 z9, .int .i64 3] ((box b6 28 [.int .i64 e6.key.pfs, .int .i64 e6.key.obj, .int .i64 e6.key.off, .int .i64 e6.made, .int .i64 e6.gone, .string e6.val]) :: (box b5 97 [.int .i64 e5.kind, .slice A11 e5.elems.length c10, .slice A12 e5.kids.length c11, .slice A13 e5.seps.length c12, .slice A14 e5.tids.length c13]) :: (box b4 131 [.int .i64 x7, .int .i64 x8, .int .i64 x9, .int .i64 x10, .int .i64 x11, .int .i64 x12, .int .i64 x13, .int .i64 x14, .bool x15, .bool x16]) :: (box b3 128 [.int .i64 p0.root, .slice A1 p0.nodes.length c1, .slice A6 ((x2.set x5.toNat true).length) ((p0.nodes.length : Int).toNat), .int .i64 z9, .int .i64 3]) :: (row 4 eBool A6 ((p0.nodes.length : Int).toNat) (x2.set x5.toNat true)) :: G1) (by rfl) rfl (by kernel_rfl) (fun w' hw => exec_store (vs := [.int .i64 3]) rfl rfl rfl rfl (by kernel_rfl) (one_of rfl) (by simp) rfl hw) ?_)
                   refine T.nil ?_
                   cases hX11
                   repeat first | refine T.unthen ?_ | refine T.unblock ?_
                   exact T.end0 rfl fun w' hh => ⟨_, rfl, And.intro rfl (hh.sub (.cons _ (.cons_cons _ (.cons_cons _ (.cons_cons _ (.cons_cons _ (List.Sublist.refl _)))))))⟩
                  ·
                   rw [hc18, cond_false] at hX11
                   refine T.skip_code ?_
                   cases hX11
                   repeat first | refine T.unthen ?_ | refine T.unblock ?_
                   exact T.end0 rfl fun w' hh => ⟨_, rfl, And.intro rfl (hh.sub (.cons _ (.cons_cons _ (.cons_cons _ (.cons_cons _ (.cons_cons _ (List.Sublist.refl _)))))))⟩
                 ·
                  rintro v w' ⟨rfl, hh⟩
                  refine ⟨V10, ((box b5 97 [.int .i64 e5.kind, .slice A11 e5.elems.length c10, .slice A12 e5.kids.length c11, .slice A13 e5.seps.length c12, .slice A14 e5.tids.length c13]) :: (box b4 131 [.int .i64 x7, .int .i64 x8, .int .i64 x9, .int .i64 x10, .int .i64 x11, .int .i64 x12, .int .i64 x13, .int .i64 x14, .bool x15, .bool x16]) :: (box b3 128 [.int .i64 p0.root, .slice A1 p0.nodes.length c1, .slice A6 ((x2.set x5.toNat true).length) ((p0.nodes.length : Int).toNat), .int .i64 z9, .int .i64 z16]) :: (row 4 eBool A6 ((p0.nodes.length : Int).toNat) (x2.set x5.toNat true)) :: G1), hh, ?_⟩
                  clear hh
                  refine T.nil ?_
                  cases hX8
                  exact fun a w' hf hh => Exists.intro V10 (And.intro (View.le_trans hV9 hV10) (And.intro (((((((Fr.nil hf).pick hf 106 rfl).pick hf 105 rfl).pick hf 104 rfl).pick hf 9 rfl).pick hf 7 rfl).pick hf 0 rfl) (hh.sub (.cons_cons _ (.cons_cons _ (.cons_cons _ (.cons_cons _ (List.Sublist.refl _))))))))
                ·
                 rw [hc17, cond_false] at hX8
                 refine T.skip_code ?_
                 cases hX8
                 exact fun a w' hf hh => Exists.intro V10 (And.intro (View.le_trans hV9 hV10) (And.intro (((((((Fr.nil hf).pick hf 106 rfl).pick hf 105 rfl).pick hf 104 rfl).pick hf 9 rfl).pick hf 7 rfl).pick hf 0 rfl) (hh.sub (.cons _ (.cons_cons _ (.cons_cons _ (.cons_cons _ (.cons_cons _ (List.Sublist.refl _)))))))))
              ·
               rintro a w' ⟨V8, hV8, hf, hh⟩
               refine (?_ : T 175 w V8 ((box b5 97 [.int .i64 e5.kind, .slice A11 e5.elems.length c10, .slice A12 e5.kids.length c11, .slice A13 e5.seps.length c12, .slice A14 e5.tids.length c13]) :: (box b4 131 [.int .i64 x7, .int .i64 x8, .int .i64 x9, .int .i64 x10, .int .i64 x11, .int .i64 x12, .int .i64 x13, .int .i64 x14, .bool x15, .bool x16]) :: (box b3 128 [.int .i64 p0.root, .slice A1 p0.nodes.length c1, .slice A6 ((x2.set x5.toNat true).length) ((p0.nodes.length : Int).toNat), .int .i64 z9, .int .i64 z13]) :: (row 4 eBool A6 ((p0.nodes.length : Int).toNat) (x2.set x5.toNat true)) :: G1) [(0, .pointer (some ⟨b3, 0, none⟩)), (7, .pointer (some ⟨b4, 0, none⟩)), (9, .pointer (some ⟨b5, 0, none⟩)), (104, .slice A11 e5.elems.length c10), (105, .int .i64 (e5.elems.length : Int)), (106, .int .i64 x18)] _) a w' hf hh
               clear hf hh
               refine T.region ?_
               refine T.pure (.int .i64 (IntKind.i64.wrap (x18 + 1))) (by kernel_rfl) (fun _ => by kernel_rfl) ?_
               refine T.pure (.int .i64 (IntKind.i64.wrap (x18 + 1))) (by kernel_rfl) (fun _ => by kernel_rfl) ?_
               refine T.nil ?_
               cases hY2
               exact fun a w' hf hh => Exists.intro (z13, IntKind.i64.wrap (x18 + 1)) (And.intro rfl (Exists.intro z13 (Exists.intro (IntKind.i64.wrap (x18 + 1)) (And.intro rfl (Exists.intro V8 (And.intro (View.le_trans hV6 hV8) (And.intro (((((((Fr.nil hf).pick hf 106 rfl).pick hf 105 rfl).pick hf 104 rfl).pick hf 9 rfl).pick hf 7 rfl).pick hf 0 rfl) (hh.sub (.cons_cons _ (.cons_cons _ (.cons_cons _ (.cons_cons _ (List.Sublist.refl _)))))))))))))
             ·
              rw [hc16, cond_false] at hY2
              refine T.exit ?_
              cases hY2
              cases (hr5 _ rfl)
              exact fun a w' hf hh => Exists.intro V6 (And.intro hV6 (And.intro ((Fr.nil hf).pick hf 9 rfl) (hh.sub (.cons_cons _ (.cons _ (.cons_cons _ (.cons_cons _ (List.Sublist.refl _))))))))
           ·
            rintro a w' ⟨V7, hV7, hf, hh⟩
            refine (?_ : T 175 w V7 ((box b5 97 [.int .i64 e5.kind, .slice A11 e5.elems.length c10, .slice A12 e5.kids.length c11, .slice A13 e5.seps.length c12, .slice A14 e5.tids.length c13]) :: (box b3 128 [.int .i64 p0.root, .slice A1 p0.nodes.length c1, .slice A6 ((x2.set x5.toNat true).length) ((p0.nodes.length : Int).toNat), .int .i64 z9, .int .i64 z12]) :: (row 4 eBool A6 ((p0.nodes.length : Int).toNat) (x2.set x5.toNat true)) :: G1) [(9, .pointer (some ⟨b5, 0, none⟩))] _) a w' hf hh
            clear hf hh
            refine T.seq ?_
            refine T.region ?_
            refine T.look (.agg #[.int .i64 e5.kind, .slice A11 e5.elems.length c10, .slice A12 e5.kids.length c11, .slice A13 e5.seps.length c12, .slice A14 e5.tids.length c13]) (by kernel_rfl) (fun w' hh => exec_loadN (cs := [.int .i64 e5.kind, .slice A11 e5.elems.length c10, .slice A12 e5.kids.length c11, .slice A13 e5.seps.length c12, .slice A14 e5.tids.length c13]) rfl rfl (by kernel_rfl) (by kernel_rfl) (fun j u hj => (hh.box_at (i := 0) (cs := [.int .i64 e5.kind, .slice A11 e5.elems.length c10, .slice A12 e5.kids.length c11, .slice A13 e5.seps.length c12, .slice A14 e5.tids.length c13]) (by rfl) 0 j).trans (seg_at (n := 5) (by rfl) hj))) ?_
            obtain ⟨r7, hb13, hS1⟩ := Option.bind_eq_some_iff.1 hS1
            refine T.step (W1.call (vSc eInt) r7 60 #[.agg #[.int .i64 e5.kind, .slice A11 e5.elems.length c10, .slice A12 e5.kids.length c11, .slice A13 e5.seps.length c12, .slice A14 e5.tids.length c13]] (by kernel_rfl) (fun _ => by kernel_rfl) (fun w' hh => node_Greatest_l F e5 r7 hb13 w' A11 c10 (SlOk.mono (SlOk.mono hs10 hV7) hh.view) A12 c11 (SlOk.mono (SlOk.mono hs11 hV7) hh.view) A13 c12 (SlOk.mono (SlOk.mono hs12 hV7) hh.view) A14 c13 (SlOk.mono (SlOk.mono hs13 hV7) hh.view)) ?_)
            intro u V15 hV15 hu
            obtain rfl := sureInt _ _ _ hu
            refine T.pure (.int .i64 r7) (by kernel_rfl) (fun _ => by kernel_rfl) ?_
            refine T.nil ?_
            have hres := Option.some.inj hS1
            subst hres
            refine T.ret rfl ?_
            repeat first | refine T.unthen ?_ | refine T.unblock ?_
            exact T.ret1 rfl (ResIs.tmp rfl) fun w' hh => ⟨_, rfl, Exists.intro (x2.set x5.toNat true) (Exists.intro z9 (Exists.intro z12 (Exists.intro r7 (And.intro rfl (Exists.intro V15 (And.intro (View.le_trans hV7 hV15) (And.intro rfl (hh.sub (.cons _ (.cons_cons _ (.cons_cons _ (List.Sublist.refl _))))))))))))⟩
        ·
         rw [hc12, cond_false] at hS1
         refine T.skip_code ?_
         refine T.seq ?_
         refine T.seq ?_
         refine T.region ?_
         refine T.pure (.pointer (some ⟨b5, 2, none⟩)) (by kernel_rfl) (fun _ => by kernel_rfl) ?_
         refine T.look (.slice A12 e5.kids.length c11) (by kernel_rfl) (fun w' hh => exec_load1 rfl rfl (by kernel_rfl) (hh.cellBox (i := 0) (by rfl) 2)) ?_
         refine T.pure (.int .i64 (e5.kids.length : Int)) (by kernel_rfl) (fun _ => by kernel_rfl) ?_
         refine T.pure (.int .i64 0) (by kernel_rfl) (fun _ => by kernel_rfl) ?_
         refine T.nil ?_
         obtain ⟨q3, hz4, hS1⟩ := Option.bind_eq_some_iff.1 hS1
         refine T.mid (fun a w' => ∃ (z17 : List Bool) (z18 : Int) (z19 : Int), q3 = (z17, z18, z19) ∧ ∃ (V17 : View), View.le V4 V17 ∧ Fr 175 [(9, .pointer (some ⟨b5, 0, none⟩))] a ∧ Hp w V17 ((box b5 97 [.int .i64 e5.kind, .slice A11 e5.elems.length c10, .slice A12 e5.kids.length c11, .slice A13 e5.seps.length c12, .slice A14 e5.tids.length c13]) :: (box b3 128 [.int .i64 p0.root, .slice A1 p0.nodes.length c1, .slice A6 z17.length ((p0.nodes.length : Int).toNat), .int .i64 z18, .int .i64 z19]) :: (row 4 eBool A6 ((p0.nodes.length : Int).toNat) z17) :: G1) w') ?_ ?_
         ·
          refine T.block ?_
          refine T.iter (fun s2 a w' => ∃ (x19 : List Bool) (x20 : Int) (x21 : Int) (x22 : Int), s2 = (x19, x20, x21, x22) ∧ ∃ (V16 : View), View.le V4 V16 ∧ Fr 175 [(0, .pointer (some ⟨b3, 0, none⟩)), (2, .int .i64 x6), (7, .pointer (some ⟨b4, 0, none⟩)), (9, .pointer (some ⟨b5, 0, none⟩)), (121, .slice A12 e5.kids.length c11), (122, .int .i64 (e5.kids.length : Int)), (123, .int .i64 x22)] a ∧ Hp w V16 ((box b5 97 [.int .i64 e5.kind, .slice A11 e5.elems.length c10, .slice A12 e5.kids.length c11, .slice A13 e5.seps.length c12, .slice A14 e5.tids.length c13]) :: (box b4 131 [.int .i64 x7, .int .i64 x8, .int .i64 x9, .int .i64 x10, .int .i64 x11, .int .i64 x12, .int .i64 x13, .int .i64 x14, .bool x15, .bool x16]) :: (box b3 128 [.int .i64 p0.root, .slice A1 p0.nodes.length c1, .slice A6 x19.length ((p0.nodes.length : Int).toNat), .int .i64 x20, .int .i64 x21]) :: (row 4 eBool A6 ((p0.nodes.length : Int).toNat) x19) :: G1) w') hz4 ?_ ?_
          ·
           exact fun a w' hf hh => Exists.intro (x2.set x5.toNat true) (Exists.intro x3 (Exists.intro z7 (Exists.intro 0 (And.intro rfl (Exists.intro V4 (And.intro (View.le_refl _) (And.intro ((((((((Fr.nil hf).pick hf 123 rfl).pick hf 122 rfl).pick hf 121 rfl).pick hf 9 rfl).pick hf 7 rfl).pick hf 2 rfl).pick hf 0 rfl) (hh.sub (.cons_cons _ (.cons_cons _ (.cons_cons _ (.cons_cons _ (List.Sublist.refl _)))))))))))))
          ·
           rintro s2 y3 hY3 hr6 a w' ⟨x19, x20, x21, x22, rfl, V16, hV16, hf, hh⟩
           refine (?_ : T 175 w V16 ((box b5 97 [.int .i64 e5.kind, .slice A11 e5.elems.length c10, .slice A12 e5.kids.length c11, .slice A13 e5.seps.length c12, .slice A14 e5.tids.length c13]) :: (box b4 131 [.int .i64 x7, .int .i64 x8, .int .i64 x9, .int .i64 x10, .int .i64 x11, .int .i64 x12, .int .i64 x13, .int .i64 x14, .bool x15, .bool x16]) :: (box b3 128 [.int .i64 p0.root, .slice A1 p0.nodes.length c1, .slice A6 x19.length ((p0.nodes.length : Int).toNat), .int .i64 x20, .int .i64 x21]) :: (row 4 eBool A6 ((p0.nodes.length : Int).toNat) x19) :: G1) [(0, .pointer (some ⟨b3, 0, none⟩)), (2, .int .i64 x6), (7, .pointer (some ⟨b4, 0, none⟩)), (9, .pointer (some ⟨b5, 0, none⟩)), (121, .slice A12 e5.kids.length c11), (122, .int .i64 (e5.kids.length : Int)), (123, .int .i64 x22)] _) a w' hf hh
           clear hf hh
           try dsimp only at hY3
           refine T.seq ?_
           refine T.region ?_
           refine T.pure (.bool (decide (x22 < (e5.kids.length : Int)))) (by kernel_rfl) (fun _ => by kernel_rfl) ?_
           refine T.nil ?_
           refine T.seq ?_
           refine T.cond (decide (x22 < (e5.kids.length : Int))) (by kernel_rfl) (by kernel_rfl) (fun hc19 => ?_) (fun hc19 => ?_)
           ·
            rw [hc19, cond_true] at hY3
            refine T.skip_code ?_
            obtain ⟨q4, hX12, hY3⟩ := Option.bind_eq_some_iff.1 hY3
            refine T.cut (fun a w' => ∃ (z20 : List Bool) (z21 : Int) (z22 : Int), q4 = (z20, z21, z22) ∧ ∃ (V18 : View), View.le V16 V18 ∧ Fr 175 [(0, .pointer (some ⟨b3, 0, none⟩)), (2, .int .i64 x6), (7, .pointer (some ⟨b4, 0, none⟩)), (9, .pointer (some ⟨b5, 0, none⟩)), (121, .slice A12 e5.kids.length c11), (122, .int .i64 (e5.kids.length : Int)), (123, .int .i64 x22)] a ∧ Hp w V18 ((box b5 97 [.int .i64 e5.kind, .slice A11 e5.elems.length c10, .slice A12 e5.kids.length c11, .slice A13 e5.seps.length c12, .slice A14 e5.tids.length c13]) :: (box b4 131 [.int .i64 x7, .int .i64 x8, .int .i64 x9, .int .i64 x10, .int .i64 x11, .int .i64 x12, .int .i64 x13, .int .i64 x14, .bool x15, .bool x16]) :: (box b3 128 [.int .i64 p0.root, .slice A1 p0.nodes.length c1, .slice A6 z20.length ((p0.nodes.length : Int).toNat), .int .i64 z21, .int .i64 z22]) :: (row 4 eBool A6 ((p0.nodes.length : Int).toNat) z20) :: G1) w') ?_ ?_
            ·
             refine T.block ?_
             refine T.seq ?_
             refine T.region ?_
             refine T.pure (.int .i64 x22) (by kernel_rfl) (fun _ => by kernel_rfl) ?_
             obtain ⟨e7, hb14, hX12⟩ := Option.bind_eq_some_iff.1 hX12
             obtain ⟨hi19, hi20, hi21⟩ := idx_some hb14
             refine T.look (.pointer (some ((sadr A12).add (x22.toNat * 1)))) (by kernel_rfl) (fun w' hh => exec_indexAddr (e := 3) (s := 1) rfl rfl rfl (by kernel_rfl) (by kernel_rfl) hi19 hi20 ((SlOk.mono hs11 hV16).some_ hi21 (by decide))) ?_
             refine T.look (.int .i64 e7) (by kernel_rfl) (fun w' hh => exec_load1 rfl rfl (by kernel_rfl) (hh.cell_view (SlOk.cellF0 (E := eInt) (SlOk.mono hs11 hV16) hi21 (fun _ _ _ h => h) rfl))) ?_
             refine T.pure (.int .i64 x22) (by kernel_rfl) (fun _ => by kernel_rfl) ?_
             refine T.pure (.int .i64 e7) (by kernel_rfl) (fun _ => by kernel_rfl) ?_
             refine T.nil ?_
             refine T.seq ?_
             refine T.region ?_
             refine T.look (.agg #[.int .i64 x7, .int .i64 x8, .int .i64 x9, .int .i64 x10, .int .i64 x11, .int .i64 x12, .int .i64 x13, .int .i64 x14, .bool x15, .bool x16]) (by kernel_rfl) (fun w' hh => exec_loadN (cs := [.int .i64 x7, .int .i64 x8, .int .i64 x9, .int .i64 x10, .int .i64 x11, .int .i64 x12, .int .i64 x13, .int .i64 x14, .bool x15, .bool x16]) rfl rfl (by kernel_rfl) (by kernel_rfl) (fun j u hj => (hh.box_at (i := 1) (cs := [.int .i64 x7, .int .i64 x8, .int .i64 x9, .int .i64 x10, .int .i64 x11, .int .i64 x12, .int .i64 x13, .int .i64 x14, .bool x15, .bool x16]) (by rfl) 0 j).trans (seg_at (n := 10) (by rfl) hj))) ?_
             refine T.step (W1.new 131 [.int .i64 0, .int .i64 0, .int .i64 0, .int .i64 0, .int .i64 0, .int .i64 0, .int .i64 0, .int .i64 0, .bool false, .bool false] (fun b => .pointer (some ⟨b, 0, none⟩)) (by kernel_rfl) (fun _ => by kernel_rfl) (fun b9 => ?_))
             refine T.step (W1.store 0 [.int .i64 x7, .int .i64 x8, .int .i64 x9, .int .i64 x10, .int .i64 x11, .int .i64 x12, .int .i64 x13, .int .i64 x14, .bool x15, .bool x16] ((box b9 131 [.int .i64 x7, .int .i64 x8, .int .i64 x9, .int .i64 x10, .int .i64 x11, .int .i64 x12, .int .i64 x13, .int .i64 x14, .bool x15, .bool x16]) :: (box b5 97 [.int .i64 e5.kind, .slice A11 e5.elems.length c10, .slice A12 e5.kids.length c11, .slice A13 e5.seps.length c12, .slice A14 e5.tids.length c13]) :: (box b4 131 [.int .i64 x7, .int .i64 x8, .int .i64 x9, .int .i64 x10, .int .i64 x11, .int .i64 x12, .int .i64 x13, .int .i64 x14, .bool x15, .bool x16]) :: (box b3 128 [.int .i64 p0.root, .slice A1 p0.nodes.length c1, .slice A6 x19.length ((p0.nodes.length : Int).toNat), .int .i64 x20, .int .i64 x21]) :: (row 4 eBool A6 ((p0.nodes.length : Int).toNat) x19) :: G1) (by rfl) rfl (by kernel_rfl) (fun w' hw => exec_store (vs := [.int .i64 x7, .int .i64 x8, .int .i64 x9, .int .i64 x10, .int .i64 x11, .int .i64 x12, .int .i64 x13, .int .i64 x14, .bool x15, .bool x16]) rfl rfl rfl rfl (by kernel_rfl) (one_of rfl) (by simp) rfl hw) ?_)
             refine T.nil ?_
             obtain ⟨q5, hX13, hX12⟩ := Option.bind_eq_some_iff.1 hX12
             refine T.cut (fun a w' => ∃ (z23 : Int) (z24 : Int) (z25 : Int) (z26 : Int) (z27 : Bool) (z28 : Int), q5 = (z23, z24, z25, z26, z27, z28) ∧ ∃ (V19 : View), View.le V16 V19 ∧ Fr 175 [(0, .pointer (some ⟨b3, 0, none⟩)), (2, .int .i64 x6), (7, .pointer (some ⟨b4, 0, none⟩)), (9, .pointer (some ⟨b5, 0, none⟩)), (12, .int .i64 x22), (13, .int .i64 e7), (14, .pointer (some ⟨b9, 0, none⟩)), (121, .slice A12 e5.kids.length c11), (122, .int .i64 (e5.kids.length : Int)), (123, .int .i64 x22)] a ∧ Hp w V19 ((box b9 131 [.int .i64 z23, .int .i64 z24, .int .i64 z25, .int .i64 z26, .int .i64 x11, .int .i64 x12, .int .i64 x13, .int .i64 x14, .bool z27, .bool x16]) :: (box b5 97 [.int .i64 e5.kind, .slice A11 e5.elems.length c10, .slice A12 e5.kids.length c11, .slice A13 e5.seps.length c12, .slice A14 e5.tids.length c13]) :: (box b4 131 [.int .i64 x7, .int .i64 x8, .int .i64 x9, .int .i64 x10, .int .i64 x11, .int .i64 x12, .int .i64 x13, .int .i64 x14, .bool x15, .bool x16]) :: (box b3 128 [.int .i64 p0.root, .slice A1 p0.nodes.length c1, .slice A6 x19.length ((p0.nodes.length : Int).toNat), .int .i64 x20, .int .i64 z28]) :: (row 4 eBool A6 ((p0.nodes.length : Int).toNat) x19) :: G1) w') ?_ ?_
             ·
              refine T.seq ?_
              refine T.region ?_
              refine T.pure (.int .i64 x22) (by kernel_rfl) (fun _ => by kernel_rfl) ?_
              refine T.pure (.bool (decide ((0 : Int) < x22))) (by kernel_rfl) (fun _ => by kernel_rfl) ?_
              refine T.nil ?_
              refine T.cond (decide ((0 : Int) < x22)) (by kernel_rfl) (by kernel_rfl) (fun hc20 => ?_) (fun hc20 => ?_)
              ·
               rw [hc20, cond_true] at hX13
               refine T.seq ?_
               refine T.region ?_
               refine T.pure (.pointer (some ⟨b5, 3, none⟩)) (by kernel_rfl) (fun _ => by kernel_rfl) ?_
               refine T.look (.slice A13 e5.seps.length c12) (by kernel_rfl) (fun w' hh => exec_load1 rfl rfl (by kernel_rfl) (hh.cellBox (i := 1) (by rfl) 3)) ?_
               refine T.pure (.int .i64 x22) (by kernel_rfl) (fun _ => by kernel_rfl) ?_
               refine T.pure (.int .i64 (IntKind.i64.wrap (x22 - 1))) (by kernel_rfl) (fun _ => by kernel_rfl) ?_
               obtain ⟨e8, hb15, hX13⟩ := Option.bind_eq_some_iff.1 hX13
               obtain ⟨hi22, hi23, hi24⟩ := idx_some hb15
               refine T.look (.pointer (some ((sadr A13).add (((IntKind.i64.wrap (x22 - 1)).toNat) * 4)))) (by kernel_rfl) (fun w' hh => exec_indexAddr (e := 43) (s := 4) rfl rfl rfl (by kernel_rfl) (by kernel_rfl) hi22 hi23 ((SlOk.mono hs12 hV16).some_ hi24 (by decide))) ?_
               refine T.look (.agg #[.int .i64 e8.key.pfs, .int .i64 e8.key.obj, .int .i64 e8.key.off, .int .i64 e8.made]) (by kernel_rfl) (fun w' hh => exec_loadN (cs := [.int .i64 e8.key.pfs, .int .i64 e8.key.obj, .int .i64 e8.key.off, .int .i64 e8.made]) rfl rfl (by kernel_rfl) (by kernel_rfl) (fun j u hj => (hh.cell_view (SlOk.cellF (E := eSpot) (SlOk.mono hs12 hV16) hi24 j (fun _ _ _ h => h) hj)))) ?_
               refine T.pure (.pointer (some ⟨b9, 0, none⟩)) (by kernel_rfl) (fun _ => by kernel_rfl) ?_
               refine T.step (W1.store 0 [.int .i64 e8.key.pfs, .int .i64 e8.key.obj, .int .i64 e8.key.off, .int .i64 e8.made, .int .i64 x11, .int .i64 x12, .int .i64 x13, .int .i64 x14, .bool x15, .bool x16] ((box b9 131 [.int .i64 e8.key.pfs, .int .i64 e8.key.obj, .int .i64 e8.key.off, .int .i64 e8.made, .int .i64 x11, .int .i64 x12, .int .i64 x13, .int .i64 x14, .bool x15, .bool x16]) :: (box b5 97 [.int .i64 e5.kind, .slice A11 e5.elems.length c10, .slice A12 e5.kids.length c11, .slice A13 e5.seps.length c12, .slice A14 e5.tids.length c13]) :: (box b4 131 [.int .i64 x7, .int .i64 x8, .int .i64 x9, .int .i64 x10, .int .i64 x11, .int .i64 x12, .int .i64 x13, .int .i64 x14, .bool x15, .bool x16]) :: (box b3 128 [.int .i64 p0.root, .slice A1 p0.nodes.length c1, .slice A6 x19.length ((p0.nodes.length : Int).toNat), .int .i64 x20, .int .i64 x21]) :: (row 4 eBool A6 ((p0.nodes.length : Int).toNat) x19) :: G1) (by rfl) rfl (by kernel_rfl) (fun w' hw => exec_store (vs := [.int .i64 e8.key.pfs, .int .i64 e8.key.obj, .int .i64 e8.key.off, .int .i64 e8.made]) rfl rfl rfl rfl (by kernel_rfl) (one_of rfl) (by simp) rfl hw) ?_)
               refine T.pure (.pointer (some ⟨b9, 8, none⟩)) (by kernel_rfl) (fun _ => by kernel_rfl) ?_
               refine T.step (W1.store 0 [.int .i64 e8.key.pfs, .int .i64 e8.key.obj, .int .i64 e8.key.off, .int .i64 e8.made, .int .i64 x11, .int .i64 x12, .int .i64 x13, .int .i64 x14, .bool true, .bool x16] ((box b9 131 [.int .i64 e8.key.pfs, .int .i64 e8.key.obj, .int .i64 e8.key.off, .int .i64 e8.made, .int .i64 x11, .int .i64 x12, .int .i64 x13, .int .i64 x14, .bool true, .bool x16]) :: (box b5 97 [.int .i64 e5.kind, .slice A11 e5.elems.length c10, .slice A12 e5.kids.length c11, .slice A13 e5.seps.length c12, .slice A14 e5.tids.length c13]) :: (box b4 131 [.int .i64 x7, .int .i64 x8, .int .i64 x9, .int .i64 x10, .int .i64 x11, .int .i64 x12, .int .i64 x13, .int .i64 x14, .bool x15, .bool x16]) :: (box b3 128 [.int .i64 p0.root, .slice A1 p0.nodes.length c1, .slice A6 x19.length ((p0.nodes.length : Int).toNat), .int .i64 x20, .int .i64 x21]) :: (row 4 eBool A6 ((p0.nodes.length : Int).toNat) x19) :: G1) (by rfl) rfl (by kernel_rfl) (fun w' hw => exec_store (vs := [.bool true]) rfl rfl rfl rfl (by kernel_rfl) (one_of rfl) (by simp) rfl hw) ?_)
               refine T.nil ?_
               refine T.seq ?_
               refine T.region ?_
               refine T.look (.agg #[.int .i64 x7, .int .i64 x8, .int .i64 x9, .int .i64 x10, .int .i64 x11, .int .i64 x12, .int .i64 x13, .int .i64 x14, .bool x15, .bool x16]) (by kernel_rfl) (fun w' hh => exec_loadN (cs := [.int .i64 x7, .int .i64 x8, .int .i64 x9, .int .i64 x10, .int .i64 x11, .int .i64 x12, .int .i64 x13, .int .i64 x14, .bool x15, .bool x16]) rfl rfl (by kernel_rfl) (by kernel_rfl) (fun j u hj => (hh.box_at (i := 2) (cs := [.int .i64 x7, .int .i64 x8, .int .i64 x9, .int .i64 x10, .int .i64 x11, .int .i64 x12, .int .i64 x13, .int .i64 x14, .bool x15, .bool x16]) (by rfl) 0 j).trans (seg_at (n := 10) (by rfl) hj))) ?_
               refine T.pure (.pointer (some ⟨b9, 0, none⟩)) (by kernel_rfl) (fun _ => by kernel_rfl) ?_
               refine T.look (.agg #[.int .i64 e8.key.pfs, .int .i64 e8.key.obj, .int .i64 e8.key.off, .int .i64 e8.made]) (by kernel_rfl) (fun w' hh => exec_loadN (cs := [.int .i64 e8.key.pfs, .int .i64 e8.key.obj, .int .i64 e8.key.off, .int .i64 e8.made]) rfl rfl (by kernel_rfl) (by kernel_rfl) (fun j u hj => (hh.box_at (i := 0) (cs := [.int .i64 e8.key.pfs, .int .i64 e8.key.obj, .int .i64 e8.key.off, .int .i64 e8.made, .int .i64 x11, .int .i64 x12, .int .i64 x13, .int .i64 x14, .bool true, .bool x16]) (by rfl) 0 j).trans (seg_at (n := 4) (by rfl) hj))) ?_
               obtain ⟨z29, hX14, hX13⟩ := Option.bind_eq_some_iff.1 hX13
               refine T.step (W1.within 92 [.agg #[.int .i64 x7, .int .i64 x8, .int .i64 x9, .int .i64 x10, .int .i64 x11, .int .i64 x12, .int .i64 x13, .int .i64 x14, .bool x15, .bool x16], .agg #[.int .i64 e8.key.pfs, .int .i64 e8.key.obj, .int .i64 e8.key.off, .int .i64 e8.made]] (fun v w' => ∃ (V20 : View), View.le V16 V20 ∧ v = .bool z29 ∧ Hp w V20 ((box b9 131 [.int .i64 e8.key.pfs, .int .i64 e8.key.obj, .int .i64 e8.key.off, .int .i64 e8.made, .int .i64 x11, .int .i64 x12, .int .i64 x13, .int .i64 x14, .bool true, .bool x16]) :: (box b5 97 [.int .i64 e5.kind, .slice A11 e5.elems.length c10, .slice A12 e5.kids.length c11, .slice A13 e5.seps.length c12, .slice A14 e5.tids.length c13]) :: (box b4 131 [.int .i64 x7, .int .i64 x8, .int .i64 x9, .int .i64 x10, .int .i64 x11, .int .i64 x12, .int .i64 x13, .int .i64 x14, .bool x15, .bool x16]) :: (box b3 128 [.int .i64 p0.root, .slice A1 p0.nodes.length c1, .slice A6 x19.length ((p0.nodes.length : Int).toNat), .int .i64 x20, .int .i64 x21]) :: (row 4 eBool A6 ((p0.nodes.length : Int).toNat) x19) :: G1) w') Try.func92 rfl rfl (by kernel_rfl) (fun _ => by kernel_rfl) rfl ?_ ?_)
               ·
                refine T.seq ?_
                refine T.region ?_
                refine T.step (W1.new 131 [.int .i64 x7, .int .i64 x8, .int .i64 x9, .int .i64 x10, .int .i64 x11, .int .i64 x12, .int .i64 x13, .int .i64 x14, .bool x15, .bool x16] (fun b => .pointer (some ⟨b, 0, none⟩)) (by kernel_rfl) (fun _ => by kernel_rfl) (fun b10 => ?_))
                refine T.step (W1.new 43 [.int .i64 e8.key.pfs, .int .i64 e8.key.obj, .int .i64 e8.key.off, .int .i64 e8.made] (fun b => .pointer (some ⟨b, 0, none⟩)) (by kernel_rfl) (fun _ => by kernel_rfl) (fun b11 => ?_))
                refine T.pure (.bool false) (by kernel_rfl) (fun _ => by kernel_rfl) ?_
                refine T.nil ?_
                obtain ⟨z30, hX15, hX14⟩ := Option.bind_eq_some_iff.1 hX14
                refine T.cut (fun a w' => ∃ (V21 : View), View.le V16 V21 ∧ Fr 27 [(4, .bool z30)] a ∧ Hp w V21 ((box b9 131 [.int .i64 e8.key.pfs, .int .i64 e8.key.obj, .int .i64 e8.key.off, .int .i64 e8.made, .int .i64 x11, .int .i64 x12, .int .i64 x13, .int .i64 x14, .bool true, .bool x16]) :: (box b5 97 [.int .i64 e5.kind, .slice A11 e5.elems.length c10, .slice A12 e5.kids.length c11, .slice A13 e5.seps.length c12, .slice A14 e5.tids.length c13]) :: (box b4 131 [.int .i64 x7, .int .i64 x8, .int .i64 x9, .int .i64 x10, .int .i64 x11, .int .i64 x12, .int .i64 x13, .int .i64 x14, .bool x15, .bool x16]) :: (box b3 128 [.int .i64 p0.root, .slice A1 p0.nodes.length c1, .slice A6 x19.length ((p0.nodes.length : Int).toNat), .int .i64 x20, .int .i64 x21]) :: (row 4 eBool A6 ((p0.nodes.length : Int).toNat) x19) :: G1) w') ?_ ?_
                ·
                 refine T.region ?_
                 refine T.pure (.pointer (some ⟨b10, 8, none⟩)) (by kernel_rfl) (fun _ => by kernel_rfl) ?_
                 refine T.look (.bool x15) (by kernel_rfl) (fun w' hh => exec_load1 rfl rfl (by kernel_rfl) (hh.cellBox (i := 1) (by rfl) 8)) ?_
                 refine T.pure (.bool (!x15)) (by kernel_rfl) (fun _ => by kernel_rfl) ?_
                 refine T.pure (.bool (!x15)) (by kernel_rfl) (fun _ => by kernel_rfl) ?_
                 cases hg9 : (!x15)
                 ·
                  skip
                  rw [hg9, cond_false] at hX15
                  refine T.pure (.pointer (some ⟨b10, 0, none⟩)) (by kernel_rfl) (fun _ => by kernel_rfl) ?_
                  refine T.look (.agg #[.int .i64 x7, .int .i64 x8, .int .i64 x9, .int .i64 x10]) (by kernel_rfl) (fun w' hh => exec_loadN (cs := [.int .i64 x7, .int .i64 x8, .int .i64 x9, .int .i64 x10]) rfl rfl (by kernel_rfl) (by kernel_rfl) (fun j u hj => (hh.box_at (i := 1) (cs := [.int .i64 x7, .int .i64 x8, .int .i64 x9, .int .i64 x10, .int .i64 x11, .int .i64 x12, .int .i64 x13, .int .i64 x14, .bool x15, .bool x16]) (by rfl) 0 j).trans (seg_at (n := 4) (by rfl) hj))) ?_
                  refine T.look (.agg #[.int .i64 e8.key.pfs, .int .i64 e8.key.obj, .int .i64 e8.key.off, .int .i64 e8.made]) (by kernel_rfl) (fun w' hh => exec_loadN (cs := [.int .i64 e8.key.pfs, .int .i64 e8.key.obj, .int .i64 e8.key.off, .int .i64 e8.made]) rfl rfl (by kernel_rfl) (by kernel_rfl) (fun j u hj => (hh.box_at (i := 0) (cs := [.int .i64 e8.key.pfs, .int .i64 e8.key.obj, .int .i64 e8.key.off, .int .i64 e8.made]) (by rfl) 0 j).trans (seg_at (n := 4) (by rfl) hj))) ?_
                  obtain ⟨r8, hb16, hX15⟩ := Option.bind_eq_some_iff.1 hX15
                  refine T.step (W1.call (vSc eInt) r8 62 #[.agg #[.int .i64 x7, .int .i64 x8, .int .i64 x9, .int .i64 x10], .agg #[.int .i64 e8.key.pfs, .int .i64 e8.key.obj, .int .i64 e8.key.off, .int .i64 e8.made]] (by kernel_rfl) (fun _ => by kernel_rfl) (fun w' hh => key_CmpSpot_l (DSpot.mk (DKey.mk x7 x8 x9) x10) e8 r8 hb16 w' ) ?_)
                  intro u V22 hV22 hu
                  obtain rfl := sureInt _ _ _ hu
                  refine T.pure (.bool (decide (r8 ≤ 0))) (by kernel_rfl) (fun _ => by kernel_rfl) ?_
                  refine T.pure (.bool (decide (r8 ≤ 0))) (by kernel_rfl) (fun _ => by kernel_rfl) ?_
                  refine T.pure (.bool (decide (r8 ≤ 0))) (by kernel_rfl) (fun _ => by kernel_rfl) ?_
                  cases hg10 : decide (r8 ≤ 0)
                  ·
                   skip
                   rw [hg10, cond_false] at hX15
                   refine T.pass (by kernel_rfl) (by kernel_rfl) ?_
                   refine T.pass (by kernel_rfl) (by kernel_rfl) ?_
                   refine T.pass (by kernel_rfl) (by kernel_rfl) ?_
                   refine T.pass (by kernel_rfl) (by kernel_rfl) ?_
                   refine T.pass (by kernel_rfl) (by kernel_rfl) ?_
                   refine T.pass (by kernel_rfl) (by kernel_rfl) ?_
                   refine T.pass (by kernel_rfl) (by kernel_rfl) ?_
                   refine T.pass (by kernel_rfl) (by kernel_rfl) ?_
                   refine T.pass (by kernel_rfl) (by kernel_rfl) ?_
                   refine T.pass (by kernel_rfl) (by kernel_rfl) ?_
                   refine T.pure (.bool false) (by kernel_rfl) (fun _ => by kernel_rfl) ?_
                   refine T.pure (.bool false) (by kernel_rfl) (fun _ => by kernel_rfl) ?_
                   refine T.nil ?_
                   cases hX15
                   exact fun a w' hf hh => Exists.intro V22 (And.intro hV22 (And.intro ((Fr.nil hf).pick hf 4 rfl) (hh.sub (.cons _ (.cons _ (.cons_cons _ (.cons_cons _ (.cons_cons _ (.cons_cons _ (.cons_cons _ (List.Sublist.refl _)))))))))))
                  ·
                   skip
                   rw [hg10, cond_true] at hX15
                   refine T.pure (.pointer (some ⟨b10, 9, none⟩)) (by kernel_rfl) (fun _ => by kernel_rfl) ?_
                   refine T.look (.bool x16) (by kernel_rfl) (fun w' hh => exec_load1 rfl rfl (by kernel_rfl) (hh.cellBox (i := 1) (by rfl) 9)) ?_
                   refine T.pure (.bool (!x16)) (by kernel_rfl) (fun _ => by kernel_rfl) ?_
                   refine T.pure (.bool (!x16)) (by kernel_rfl) (fun _ => by kernel_rfl) ?_
                   cases hg11 : (!x16)
                   ·
                    skip
                    rw [hg11, cond_false] at hX15
                    refine T.look (.agg #[.int .i64 e8.key.pfs, .int .i64 e8.key.obj, .int .i64 e8.key.off, .int .i64 e8.made]) (by kernel_rfl) (fun w' hh => exec_loadN (cs := [.int .i64 e8.key.pfs, .int .i64 e8.key.obj, .int .i64 e8.key.off, .int .i64 e8.made]) rfl rfl (by kernel_rfl) (by kernel_rfl) (fun j u hj => (hh.box_at (i := 0) (cs := [.int .i64 e8.key.pfs, .int .i64 e8.key.obj, .int .i64 e8.key.off, .int .i64 e8.made]) (by rfl) 0 j).trans (seg_at (n := 4) (by rfl) hj))) ?_
                    refine T.pure (.pointer (some ⟨b10, 4, none⟩)) (by kernel_rfl) (fun _ => by kernel_rfl) ?_
                    refine T.look (.agg #[.int .i64 x11, .int .i64 x12, .int .i64 x13, .int .i64 x14]) (by kernel_rfl) (fun w' hh => exec_loadN (cs := [.int .i64 x11, .int .i64 x12, .int .i64 x13, .int .i64 x14]) rfl rfl (by kernel_rfl) (by kernel_rfl) (fun j u hj => (hh.box_at (i := 1) (cs := [.int .i64 x7, .int .i64 x8, .int .i64 x9, .int .i64 x10, .int .i64 x11, .int .i64 x12, .int .i64 x13, .int .i64 x14, .bool x15, .bool x16]) (by rfl) 4 j).trans (seg_at (n := 4) (by rfl) hj))) ?_
                    obtain ⟨r9, hb17, hX15⟩ := Option.bind_eq_some_iff.1 hX15
                    refine T.step (W1.call (vSc eInt) r9 62 #[.agg #[.int .i64 e8.key.pfs, .int .i64 e8.key.obj, .int .i64 e8.key.off, .int .i64 e8.made], .agg #[.int .i64 x11, .int .i64 x12, .int .i64 x13, .int .i64 x14]] (by kernel_rfl) (fun _ => by kernel_rfl) (fun w' hh => key_CmpSpot_l e8 (DSpot.mk (DKey.mk x11 x12 x13) x14) r9 hb17 w' ) ?_)
                    intro u V23 hV23 hu
                    obtain rfl := sureInt _ _ _ hu
                    refine T.pure (.bool (decide (r9 < 0))) (by kernel_rfl) (fun _ => by kernel_rfl) ?_
                    refine T.pure (.bool (decide (r9 < 0))) (by kernel_rfl) (fun _ => by kernel_rfl) ?_
                    refine T.pure (.bool (decide (r9 < 0))) (by kernel_rfl) (fun _ => by kernel_rfl) ?_
                    refine T.pure (.bool (decide (r9 < 0))) (by kernel_rfl) (fun _ => by kernel_rfl) ?_
                    refine T.nil ?_
                    cases hX15
                    exact fun a w' hf hh => Exists.intro V23 (And.intro (View.le_trans hV22 hV23) (And.intro ((Fr.nil hf).pick hf 4 rfl) (hh.sub (.cons _ (.cons _ (.cons_cons _ (.cons_cons _ (.cons_cons _ (.cons_cons _ (.cons_cons _ (List.Sublist.refl _)))))))))))
                   ·
                    skip
                    rw [hg11, cond_true] at hX15
                    refine T.pass (by kernel_rfl) (by kernel_rfl) ?_
                    refine T.pass (by kernel_rfl) (by kernel_rfl) ?_
                    refine T.pass (by kernel_rfl) (by kernel_rfl) ?_
                    refine T.pass (by kernel_rfl) (by kernel_rfl) ?_
                    refine T.pass (by kernel_rfl) (by kernel_rfl) ?_
                    refine T.pure (.bool true) (by kernel_rfl) (fun _ => by kernel_rfl) ?_
                    refine T.pure (.bool true) (by kernel_rfl) (fun _ => by kernel_rfl) ?_
                    refine T.pure (.bool true) (by kernel_rfl) (fun _ => by kernel_rfl) ?_
                    refine T.nil ?_
                    cases hX15
                    exact fun a w' hf hh => Exists.intro V22 (And.intro hV22 (And.intro ((Fr.nil hf).pick hf 4 rfl) (hh.sub (.cons _ (.cons _ (.cons_cons _ (.cons_cons _ (.cons_cons _ (.cons_cons _ (.cons_cons _ (List.Sublist.refl _)))))))))))
                 ·
                  skip
                  rw [hg9, cond_true] at hX15
                  refine T.pass (by kernel_rfl) (by kernel_rfl) ?_
                  refine T.pass (by kernel_rfl) (by kernel_rfl) ?_
                  refine T.pass (by kernel_rfl) (by kernel_rfl) ?_
                  refine T.pass (by kernel_rfl) (by kernel_rfl) ?_
                  refine T.pass (by kernel_rfl) (by kernel_rfl) ?_
                  refine T.pure (.bool true) (by kernel_rfl) (fun _ => by kernel_rfl) ?_
                  refine T.pure (.bool true) (by kernel_rfl) (fun _ => by kernel_rfl) ?_
                  refine T.pure (.pointer (some ⟨b10, 9, none⟩)) (by kernel_rfl) (fun _ => by kernel_rfl) ?_
                  refine T.look (.bool x16) (by kernel_rfl) (fun w' hh => exec_load1 rfl rfl (by kernel_rfl) (hh.cellBox (i := 1) (by rfl) 9)) ?_
                  refine T.pure (.bool (!x16)) (by kernel_rfl) (fun _ => by kernel_rfl) ?_
                  refine T.pure (.bool (!x16)) (by kernel_rfl) (fun _ => by kernel_rfl) ?_
                  cases hg12 : (!x16)
                  ·
                   skip
                   rw [hg12, cond_false] at hX15
                   refine T.look (.agg #[.int .i64 e8.key.pfs, .int .i64 e8.key.obj, .int .i64 e8.key.off, .int .i64 e8.made]) (by kernel_rfl) (fun w' hh => exec_loadN (cs := [.int .i64 e8.key.pfs, .int .i64 e8.key.obj, .int .i64 e8.key.off, .int .i64 e8.made]) rfl rfl (by kernel_rfl) (by kernel_rfl) (fun j u hj => (hh.box_at (i := 0) (cs := [.int .i64 e8.key.pfs, .int .i64 e8.key.obj, .int .i64 e8.key.off, .int .i64 e8.made]) (by rfl) 0 j).trans (seg_at (n := 4) (by rfl) hj))) ?_
                   refine T.pure (.pointer (some ⟨b10, 4, none⟩)) (by kernel_rfl) (fun _ => by kernel_rfl) ?_
                   refine T.look (.agg #[.int .i64 x11, .int .i64 x12, .int .i64 x13, .int .i64 x14]) (by kernel_rfl) (fun w' hh => exec_loadN (cs := [.int .i64 x11, .int .i64 x12, .int .i64 x13, .int .i64 x14]) rfl rfl (by kernel_rfl) (by kernel_rfl) (fun j u hj => (hh.box_at (i := 1) (cs := [.int .i64 x7, .int .i64 x8, .int .i64 x9, .int .i64 x10, .int .i64 x11, .int .i64 x12, .int .i64 x13, .int .i64 x14, .bool x15, .bool x16]) (by rfl) 4 j).trans (seg_at (n := 4) (by rfl) hj))) ?_
                   obtain ⟨r10, hb18, hX15⟩ := Option.bind_eq_some_iff.1 hX15
                   refine T.step (W1.call (vSc eInt) r10 62 #[.agg #[.int .i64 e8.key.pfs, .int .i64 e8.key.obj, .int .i64 e8.key.off, .int .i64 e8.made], .agg #[.int .i64 x11, .int .i64 x12, .int .i64 x13, .int .i64 x14]] (by kernel_rfl) (fun _ => by kernel_rfl) (fun w' hh => key_CmpSpot_l e8 (DSpot.mk (DKey.mk x11 x12 x13) x14) r10 hb18 w' ) ?_)
                   intro u V24 hV24 hu
                   obtain rfl := sureInt _ _ _ hu
                   refine T.pure (.bool (decide (r10 < 0))) (by kernel_rfl) (fun _ => by kernel_rfl) ?_
                   refine T.pure (.bool (decide (r10 < 0))) (by kernel_rfl) (fun _ => by kernel_rfl) ?_
                   refine T.pure (.bool (decide (r10 < 0))) (by kernel_rfl) (fun _ => by kernel_rfl) ?_
                   refine T.pure (.bool (decide (r10 < 0))) (by kernel_rfl) (fun _ => by kernel_rfl) ?_
                   refine T.nil ?_
                   cases hX15
                   exact fun a w' hf hh => Exists.intro V24 (And.intro hV24 (And.intro ((Fr.nil hf).pick hf 4 rfl) (hh.sub (.cons _ (.cons _ (.cons_cons _ (.cons_cons _ (.cons_cons _ (.cons_cons _ (.cons_cons _ (List.Sublist.refl _)))))))))))
                  ·
                   skip
                   rw [hg12, cond_true] at hX15
                   refine T.pass (by kernel_rfl) (by kernel_rfl) ?_
                   refine T.pass (by kernel_rfl) (by kernel_rfl) ?_
                   refine T.pass (by kernel_rfl) (by kernel_rfl) ?_
                   refine T.pass (by kernel_rfl) (by kernel_rfl) ?_
                   refine T.pass (by kernel_rfl) (by kernel_rfl) ?_
                   refine T.pure (.bool true) (by kernel_rfl) (fun _ => by kernel_rfl) ?_
                   refine T.pure (.bool true) (by kernel_rfl) (fun _ => by kernel_rfl) ?_
                   refine T.pure (.bool true) (by kernel_rfl) (fun _ => by kernel_rfl) ?_
                   refine T.nil ?_
                   cases hX15
                   exact fun a w' hf hh => Exists.intro V16 (And.intro (View.le_refl _) (And.intro ((Fr.nil hf).pick hf 4 rfl) (hh.sub (.cons _ (.cons _ (.cons_cons _ (.cons_cons _ (.cons_cons _ (.cons_cons _ (.cons_cons _ (List.Sublist.refl _)))))))))))
                ·
                 rintro a w' ⟨V21, hV21, hf, hh⟩
                 refine (?_ : T 27 w V21 ((box b9 131 [.int .i64 e8.key.pfs, .int .i64 e8.key.obj, .int .i64 e8.key.off, .int .i64 e8.made, .int .i64 x11, .int .i64 x12, .int .i64 x13, .int .i64 x14, .bool true, .bool x16]) :: (box b5 97 [.int .i64 e5.kind, .slice A11 e5.elems.length c10, .slice A12 e5.kids.length c11, .slice A13 e5.seps.length c12, .slice A14 e5.tids.length c13]) :: (box b4 131 [.int .i64 x7, .int .i64 x8, .int .i64 x9, .int .i64 x10, .int .i64 x11, .int .i64 x12, .int .i64 x13, .int .i64 x14, .bool x15, .bool x16]) :: (box b3 128 [.int .i64 p0.root, .slice A1 p0.nodes.length c1, .slice A6 x19.length ((p0.nodes.length : Int).toNat), .int .i64 x20, .int .i64 x21]) :: (row 4 eBool A6 ((p0.nodes.length : Int).toNat) x19) :: G1) [(4, .bool z30)] _) a w' hf hh
                 clear hf hh
                 cases hX14
                 refine T.ret rfl ?_
                 exact T.ret1 rfl (ResIs.tmp rfl) fun w' hh => ⟨_, rfl, Exists.intro V21 (And.intro hV21 (And.intro rfl (hh.sub (.cons_cons _ (.cons_cons _ (.cons_cons _ (.cons_cons _ (.cons_cons _ (List.Sublist.refl _)))))))))⟩
               ·
                rintro v w' ⟨V20, hV20, rfl, hh⟩
                refine ⟨V20, ((box b9 131 [.int .i64 e8.key.pfs, .int .i64 e8.key.obj, .int .i64 e8.key.off, .int .i64 e8.made, .int .i64 x11, .int .i64 x12, .int .i64 x13, .int .i64 x14, .bool true, .bool x16]) :: (box b5 97 [.int .i64 e5.kind, .slice A11 e5.elems.length c10, .slice A12 e5.kids.length c11, .slice A13 e5.seps.length c12, .slice A14 e5.tids.length c13]) :: (box b4 131 [.int .i64 x7, .int .i64 x8, .int .i64 x9, .int .i64 x10, .int .i64 x11, .int .i64 x12, .int .i64 x13, .int .i64 x14, .bool x15, .bool x16]) :: (box b3 128 [.int .i64 p0.root, .slice A1 p0.nodes.length c1, .slice A6 x19.length ((p0.nodes.length : Int).toNat), .int .i64 x20, .int .i64 x21]) :: (row 4 eBool A6 ((p0.nodes.length : Int).toNat) x19) :: G1), hh, ?_⟩
                clear hh
                refine T.pure (.bool (!z29)) (by kernel_rfl) (fun _ => by kernel_rfl) ?_
                refine T.nil ?_
                refine T.cond (!z29) (by kernel_rfl) (by kernel_rfl) (fun hc21 => ?_) (fun hc21 => ?_)
                ·
                 rw [hc21, cond_true] at hX13
                 refine T.region ?_
                 refine T.pure (.pointer (some ⟨b3, 0, none⟩)) (by kernel_rfl) (fun _ => by kernel_rfl) ?_
                 obtain ⟨z31, hX16, hX13⟩ := Option.bind_eq_some_iff.1 hX13
                 refine T.step (W1.within 75 [.pointer (some ⟨b3, 0, none⟩), .int .i64 3] (fun v w' => v = .tuple #[] ∧ Hp w V20 ((box b9 131 [.int .i64 e8.key.pfs, .int .i64 e8.key.obj, .int .i64 e8.key.off, .int .i64 e8.made, .int .i64 x11, .int .i64 x12, .int .i64 x13, .int .i64 x14, .bool true, .bool x16]) :: (box b5 97 [.int .i64 e5.kind, .slice A11 e5.elems.length c10, .slice A12 e5.kids.length c11, .slice A13 e5.seps.length c12, .slice A14 e5.tids.length c13]) :: (box b4 131 [.int .i64 x7, .int .i64 x8, .int .i64 x9, .int .i64 x10, .int .i64 x11, .int .i64 x12, .int .i64 x13, .int .i64 x14, .bool x15, .bool x16]) :: (box b3 128 [.int .i64 p0.root, .slice A1 p0.nodes.length c1, .slice A6 x19.length ((p0.nodes.length : Int).toNat), .int .i64 x20, .int .i64 z31]) :: (row 4 eBool A6 ((p0.nodes.length : Int).toNat) x19) :: G1) w') Try.func75 rfl rfl (by kernel_rfl) (fun _ => by kernel_rfl) rfl ?_ ?_)
                 ·
                  refine T.seq ?_
                  refine T.region ?_
                  refine T.pure (.pointer (some ⟨b3, 0, none⟩)) (by kernel_rfl) (fun _ => by kernel_rfl) ?_
                  refine T.pure (.pointer (some ⟨b3, 0, none⟩)) (by kernel_rfl) (fun _ => by kernel_rfl) ?_
                  refine T.pure (.pointer (some ⟨b3, 4, none⟩)) (by kernel_rfl) (fun _ => by kernel_rfl) ?_
                  refine T.look (.int .i64 x21) (by kernel_rfl) (fun w' hh => exec_load1 rfl rfl (by kernel_rfl) (hh.cellBox (i := 3) (by rfl) 4)) ?_
                  refine T.pure (.bool (x21 == 0)) (by kernel_rfl) (fun _ => by kernel_rfl) ?_
                  refine T.nil ?_
                  refine T.cond (x21 == 0) (by kernel_rfl) (by kernel_rfl) (fun hc22 => ?_) (fun hc22 => ?_)
                  ·
                   rw [hc22, cond_true] at hX16
                   refine T.region ?_
                   refine T.pure (.pointer (some ⟨b3, 0, none⟩)) (by kernel_rfl) (fun _ => by kernel_rfl) ?_
                   refine T.pure (.int .i64 3) (by kernel_rfl) (fun _ => by kernel_rfl) ?_
                   refine T.pure (.pointer (some ⟨b3, 0, none⟩)) (by kernel_rfl) (fun _ => by kernel_rfl) ?_
                   refine T.pure (.pointer (some ⟨b3, 4, none⟩)) (by kernel_rfl) (fun _ => by kernel_rfl) ?_
                   refine T.step (W1.store 3 [.int .i64 p0.root, .slice A1 p0.nodes.length c1, .slice A6 x19.length ((p0.nodes.length : Int).toNat), .int .i64 x20, .int .i64 3] ((box b9 131 [.int .i64 e8.key.pfs, .int .i64 e8.key.obj, .int .i64 e8.key.off, .int .i64 e8.made, .int .i64 x11, .int .i64 x12, .int .i64 x13, .int .i64 x14, .bool true, .bool x16]) :: (box b5 97 [.int .i64 e5.kind, .slice A11 e5.elems.length c10, .slice A12 e5.kids.length c11, .slice A13 e5.seps.length c12, .slice A14 e5.tids.length c13]) :: (box b4 131 [.int .i64 x7, .int .i64 x8, .int .i64 x9, .int .i64 x10, .int .i64 x11, .int .i64 x12, .int .i64 x13, .int .i64 x14, .bool x15, .bool x16]) :: (box b3 128 [.int .i64 p0.root, .slice A1 p0.nodes.length c1, .slice A6 x19.length ((p0.nodes.length : Int).toNat), .int .i64 x20, .int .i64 3]) :: (row 4 eBool A6 ((p0.nodes.length : Int).toNat) x19) :: G1) (by rfl) rfl (by kernel_rfl) (fun w' hw => exec_store (vs := [.int .i64 3]) rfl rfl rfl rfl (by kernel_rfl) (one_of rfl) (by simp) rfl hw) ?_)
                   refine T.nil ?_
                   cases hX16
                   repeat first | refine T.unthen ?_ | refine T.unblock ?_
                   exact T.end0 rfl fun w' hh => ⟨_, rfl, And.intro rfl (hh.sub (.cons_cons _ (.cons_cons _ (.cons_cons _ (.cons_cons _ (.cons_cons _ (List.Sublist.refl _)))))))⟩
                  ·
                   rw [hc22, cond_false] at hX16
                   refine T.skip_code ?_
                   cases hX16
                   repeat first | refine T.unthen ?_ | refine T.unblock ?_
                   exact T.end0 rfl fun w' hh => ⟨_, rfl, And.intro rfl (hh.sub (.cons_cons _ (.cons_cons _ (.cons_cons _ (.cons_cons _ (.cons_cons _ (List.Sublist.refl _)))))))⟩
                 ·
                  rintro v w' ⟨rfl, hh⟩
                  refine ⟨V20, ((box b9 131 [.int .i64 e8.key.pfs, .int .i64 e8.key.obj, .int .i64 e8.key.off, .int .i64 e8.made, .int .i64 x11, .int .i64 x12, .int .i64 x13, .int .i64 x14, .bool true, .bool x16]) :: (box b5 97 [.int .i64 e5.kind, .slice A11 e5.elems.length c10, .slice A12 e5.kids.length c11, .slice A13 e5.seps.length c12, .slice A14 e5.tids.length c13]) :: (box b4 131 [.int .i64 x7, .int .i64 x8, .int .i64 x9, .int .i64 x10, .int .i64 x11, .int .i64 x12, .int .i64 x13, .int .i64 x14, .bool x15, .bool x16]) :: (box b3 128 [.int .i64 p0.root, .slice A1 p0.nodes.length c1, .slice A6 x19.length ((p0.nodes.length : Int).toNat), .int .i64 x20, .int .i64 z31]) :: (row 4 eBool A6 ((p0.nodes.length : Int).toNat) x19) :: G1), hh, ?_⟩
                  clear hh
                  refine T.nil ?_
                  cases hX13
                  exact fun a w' hf hh => Exists.intro e8.key.pfs (Exists.intro e8.key.obj (Exists.intro e8.key.off (Exists.intro e8.made (Exists.intro true (Exists.intro z31 (And.intro rfl (Exists.intro V20 (And.intro hV20 (And.intro (((((((((((Fr.nil hf).pick hf 123 rfl).pick hf 122 rfl).pick hf 121 rfl).pick hf 14 rfl).pick hf 13 rfl).pick hf 12 rfl).pick hf 9 rfl).pick hf 7 rfl).pick hf 2 rfl).pick hf 0 rfl) (hh.sub (.cons_cons _ (.cons_cons _ (.cons_cons _ (.cons_cons _ (.cons_cons _ (List.Sublist.refl _))))))))))))))))
                ·
                 rw [hc21, cond_false] at hX13
                 refine T.skip_code ?_
                 cases hX13
                 exact fun a w' hf hh => Exists.intro e8.key.pfs (Exists.intro e8.key.obj (Exists.intro e8.key.off (Exists.intro e8.made (Exists.intro true (Exists.intro x21 (And.intro rfl (Exists.intro V20 (And.intro hV20 (And.intro (((((((((((Fr.nil hf).pick hf 123 rfl).pick hf 122 rfl).pick hf 121 rfl).pick hf 14 rfl).pick hf 13 rfl).pick hf 12 rfl).pick hf 9 rfl).pick hf 7 rfl).pick hf 2 rfl).pick hf 0 rfl) (hh.sub (.cons_cons _ (.cons_cons _ (.cons_cons _ (.cons_cons _ (.cons_cons _ (List.Sublist.refl _))))))))))))))))
              ·
               rw [hc20, cond_false] at hX13
               refine T.skip_code ?_
               cases hX13
               exact fun a w' hf hh => Exists.intro x7 (Exists.intro x8 (Exists.intro x9 (Exists.intro x10 (Exists.intro x15 (Exists.intro x21 (And.intro rfl (Exists.intro V16 (And.intro (View.le_refl _) (And.intro (((((((((((Fr.nil hf).pick hf 123 rfl).pick hf 122 rfl).pick hf 121 rfl).pick hf 14 rfl).pick hf 13 rfl).pick hf 12 rfl).pick hf 9 rfl).pick hf 7 rfl).pick hf 2 rfl).pick hf 0 rfl) (hh.sub (.cons_cons _ (.cons_cons _ (.cons_cons _ (.cons_cons _ (.cons_cons _ (List.Sublist.refl _))))))))))))))))
             ·
              rintro a w' ⟨z23, z24, z25, z26, z27, z28, rfl, V19, hV19, hf, hh⟩
              try dsimp only at hX12
              refine (?_ : T 175 w V19 ((box b9 131 [.int .i64 z23, .int .i64 z24, .int .i64 z25, .int .i64 z26, .int .i64 x11, .int .i64 x12, .int .i64 x13, .int .i64 x14, .bool z27, .bool x16]) :: (box b5 97 [.int .i64 e5.kind, .slice A11 e5.elems.length c10, .slice A12 e5.kids.length c11, .slice A13 e5.seps.length c12, .slice A14 e5.tids.length c13]) :: (box b4 131 [.int .i64 x7, .int .i64 x8, .int .i64 x9, .int .i64 x10, .int .i64 x11, .int .i64 x12, .int .i64 x13, .int .i64 x14, .bool x15, .bool x16]) :: (box b3 128 [.int .i64 p0.root, .slice A1 p0.nodes.length c1, .slice A6 x19.length ((p0.nodes.length : Int).toNat), .int .i64 x20, .int .i64 z28]) :: (row 4 eBool A6 ((p0.nodes.length : Int).toNat) x19) :: G1) [(0, .pointer (some ⟨b3, 0, none⟩)), (2, .int .i64 x6), (7, .pointer (some ⟨b4, 0, none⟩)), (9, .pointer (some ⟨b5, 0, none⟩)), (12, .int .i64 x22), (13, .int .i64 e7), (14, .pointer (some ⟨b9, 0, none⟩)), (121, .slice A12 e5.kids.length c11), (122, .int .i64 (e5.kids.length : Int)), (123, .int .i64 x22)] _) a w' hf hh
              clear hf hh
              obtain ⟨q6, hX17, hX12⟩ := Option.bind_eq_some_iff.1 hX12
              refine T.cut (fun a w' => ∃ (z32 : Int) (z33 : Int) (z34 : Int) (z35 : Int) (z36 : Bool), q6 = (z32, z33, z34, z35, z36) ∧ Fr 175 [(0, .pointer (some ⟨b3, 0, none⟩)), (2, .int .i64 x6), (7, .pointer (some ⟨b4, 0, none⟩)), (9, .pointer (some ⟨b5, 0, none⟩)), (12, .int .i64 x22), (13, .int .i64 e7), (14, .pointer (some ⟨b9, 0, none⟩)), (121, .slice A12 e5.kids.length c11), (122, .int .i64 (e5.kids.length : Int)), (123, .int .i64 x22)] a ∧ Hp w V19 ((box b9 131 [.int .i64 z23, .int .i64 z24, .int .i64 z25, .int .i64 z26, .int .i64 z32, .int .i64 z33, .int .i64 z34, .int .i64 z35, .bool z27, .bool z36]) :: (box b5 97 [.int .i64 e5.kind, .slice A11 e5.elems.length c10, .slice A12 e5.kids.length c11, .slice A13 e5.seps.length c12, .slice A14 e5.tids.length c13]) :: (box b4 131 [.int .i64 x7, .int .i64 x8, .int .i64 x9, .int .i64 x10, .int .i64 x11, .int .i64 x12, .int .i64 x13, .int .i64 x14, .bool x15, .bool x16]) :: (box b3 128 [.int .i64 p0.root, .slice A1 p0.nodes.length c1, .slice A6 x19.length ((p0.nodes.length : Int).toNat), .int .i64 x20, .int .i64 z28]) :: (row 4 eBool A6 ((p0.nodes.length : Int).toNat) x19) :: G1) w') ?_ ?_
              ·
               refine T.seq ?_
               refine T.region ?_
               refine T.pure (.int .i64 x22) (by kernel_rfl) (fun _ => by kernel_rfl) ?_
               refine T.pure (.pointer (some ⟨b5, 3, none⟩)) (by kernel_rfl) (fun _ => by kernel_rfl) ?_
               refine T.look (.slice A13 e5.seps.length c12) (by kernel_rfl) (fun w' hh => exec_load1 rfl rfl (by kernel_rfl) (hh.cellBox (i := 1) (by rfl) 3)) ?_
               refine T.pure (.int .i64 (e5.seps.length : Int)) (by kernel_rfl) (fun _ => by kernel_rfl) ?_
               refine T.pure (.bool (decide (x22 < (e5.seps.length : Int)))) (by kernel_rfl) (fun _ => by kernel_rfl) ?_
               refine T.nil ?_
               refine T.cond (decide (x22 < (e5.seps.length : Int))) (by kernel_rfl) (by kernel_rfl) (fun hc23 => ?_) (fun hc23 => ?_)
               ·
                rw [hc23, cond_true] at hX17
                refine T.region ?_
                refine T.pure (.pointer (some ⟨b5, 3, none⟩)) (by kernel_rfl) (fun _ => by kernel_rfl) ?_
                refine T.look (.slice A13 e5.seps.length c12) (by kernel_rfl) (fun w' hh => exec_load1 rfl rfl (by kernel_rfl) (hh.cellBox (i := 1) (by rfl) 3)) ?_
                refine T.pure (.int .i64 x22) (by kernel_rfl) (fun _ => by kernel_rfl) ?_
                obtain ⟨e9, hb19, hX17⟩ := Option.bind_eq_some_iff.1 hX17
                obtain ⟨hi25, hi26, hi27⟩ := idx_some hb19
                refine T.look (.pointer (some ((sadr A13).add (x22.toNat * 4)))) (by kernel_rfl) (fun w' hh => exec_indexAddr (e := 43) (s := 4) rfl rfl rfl (by kernel_rfl) (by kernel_rfl) hi25 hi26 ((SlOk.mono hs12 (View.le_trans hV16 hV19)).some_ hi27 (by decide))) ?_
                refine T.look (.agg #[.int .i64 e9.key.pfs, .int .i64 e9.key.obj, .int .i64 e9.key.off, .int .i64 e9.made]) (by kernel_rfl) (fun w' hh => exec_loadN (cs := [.int .i64 e9.key.pfs, .int .i64 e9.key.obj, .int .i64 e9.key.off, .int .i64 e9.made]) rfl rfl (by kernel_rfl) (by kernel_rfl) (fun j u hj => (hh.cell_view (SlOk.cellF (E := eSpot) (SlOk.mono hs12 (View.le_trans hV16 hV19)) hi27 j (fun _ _ _ h => h) hj)))) ?_
                refine T.pure (.pointer (some ⟨b9, 4, none⟩)) (by kernel_rfl) (fun _ => by kernel_rfl) ?_
                refine T.step (W1.store 0 [.int .i64 z23, .int .i64 z24, .int .i64 z25, .int .i64 z26, .int .i64 e9.key.pfs, .int .i64 e9.key.obj, .int .i64 e9.key.off, .int .i64 e9.made, .bool z27, .bool x16] ((box b9 131 [.int .i64 z23, .int .i64 z24, .int .i64 z25, .int .i64 z26, .int .i64 e9.key.pfs, .int .i64 e9.key.obj, .int .i64 e9.key.off, .int .i64 e9.made, .bool z27, .bool x16]) :: (box b5 97 [.int .i64 e5.kind, .slice A11 e5.elems.length c10, .slice A12 e5.kids.length c11, .slice A13 e5.seps.length c12, .slice A14 e5.tids.length c13]) :: (box b4 131 [.int .i64 x7, .int .i64 x8, .int .i64 x9, .int .i64 x10, .int .i64 x11, .int .i64 x12, .int .i64 x13, .int .i64 x14, .bool x15, .bool x16]) :: (box b3 128 [.int .i64 p0.root, .slice A1 p0.nodes.length c1, .slice A6 x19.length ((p0.nodes.length : Int).toNat), .int .i64 x20, .int .i64 z28]) :: (row 4 eBool A6 ((p0.nodes.length : Int).toNat) x19) :: G1) (by rfl) rfl (by kernel_rfl) (fun w' hw => exec_store (vs := [.int .i64 e9.key.pfs, .int .i64 e9.key.obj, .int .i64 e9.key.off, .int .i64 e9.made]) rfl rfl rfl rfl (by kernel_rfl) (one_of rfl) (by simp) rfl hw) ?_)
                refine T.pure (.pointer (some ⟨b9, 9, none⟩)) (by kernel_rfl) (fun _ => by kernel_rfl) ?_
                refine T.step (W1.store 0 [.int .i64 z23, .int .i64 z24, .int .i64 z25, .int .i64 z26, .int .i64 e9.key.pfs, .int .i64 e9.key.obj, .int .i64 e9.key.off, .int .i64 e9.made, .bool z27, .bool true] ((box b9 131 [.int .i64 z23, .int .i64 z24, .int .i64 z25, .int .i64 z26, .int .i64 e9.key.pfs, .int .i64 e9.key.obj, .int .i64 e9.key.off, .int .i64 e9.made, .bool z27, .bool true]) :: (box b5 97 [.int .i64 e5.kind, .slice A11 e5.elems.length c10, .slice A12 e5.kids.length c11, .slice A13 e5.seps.length c12, .slice A14 e5.tids.length c13]) :: (box b4 131 [.int .i64 x7, .int .i64 x8, .int .i64 x9, .int .i64 x10, .int .i64 x11, .int .i64 x12, .int .i64 x13, .int .i64 x14, .bool x15, .bool x16]) :: (box b3 128 [.int .i64 p0.root, .slice A1 p0.nodes.length c1, .slice A6 x19.length ((p0.nodes.length : Int).toNat), .int .i64 x20, .int .i64 z28]) :: (row 4 eBool A6 ((p0.nodes.length : Int).toNat) x19) :: G1) (by rfl) rfl (by kernel_rfl) (fun w' hw => exec_store (vs := [.bool true]) rfl rfl rfl rfl (by kernel_rfl) (one_of rfl) (by simp) rfl hw) ?_)
                refine T.nil ?_
                cases hX17
                exact fun a w' hf hh => Exists.intro e9.key.pfs (Exists.intro e9.key.obj (Exists.intro e9.key.off (Exists.intro e9.made (Exists.intro true (And.intro rfl (And.intro (((((((((((Fr.nil hf).pick hf 123 rfl).pick hf 122 rfl).pick hf 121 rfl).pick hf 14 rfl).pick hf 13 rfl).pick hf 12 rfl).pick hf 9 rfl).pick hf 7 rfl).pick hf 2 rfl).pick hf 0 rfl) (hh.sub (.cons_cons _ (.cons_cons _ (.cons_cons _ (.cons_cons _ (.cons_cons _ (List.Sublist.refl _)))))))))))))
               ·
                rw [hc23, cond_false] at hX17
                refine T.skip_code ?_
                cases hX17
                exact fun a w' hf hh => Exists.intro x11 (Exists.intro x12 (Exists.intro x13 (Exists.intro x14 (Exists.intro x16 (And.intro rfl (And.intro (((((((((((Fr.nil hf).pick hf 123 rfl).pick hf 122 rfl).pick hf 121 rfl).pick hf 14 rfl).pick hf 13 rfl).pick hf 12 rfl).pick hf 9 rfl).pick hf 7 rfl).pick hf 2 rfl).pick hf 0 rfl) (hh.sub (.cons_cons _ (.cons_cons _ (.cons_cons _ (.cons_cons _ (.cons_cons _ (List.Sublist.refl _)))))))))))))
              ·
               rintro a w' ⟨z32, z33, z34, z35, z36, rfl, hf, hh⟩
               try dsimp only at hX12
               refine (?_ : T 175 w V19 ((box b9 131 [.int .i64 z23, .int .i64 z24, .int .i64 z25, .int .i64 z26, .int .i64 z32, .int .i64 z33, .int .i64 z34, .int .i64 z35, .bool z27, .bool z36]) :: (box b5 97 [.int .i64 e5.kind, .slice A11 e5.elems.length c10, .slice A12 e5.kids.length c11, .slice A13 e5.seps.length c12, .slice A14 e5.tids.length c13]) :: (box b4 131 [.int .i64 x7, .int .i64 x8, .int .i64 x9, .int .i64 x10, .int .i64 x11, .int .i64 x12, .int .i64 x13, .int .i64 x14, .bool x15, .bool x16]) :: (box b3 128 [.int .i64 p0.root, .slice A1 p0.nodes.length c1, .slice A6 x19.length ((p0.nodes.length : Int).toNat), .int .i64 x20, .int .i64 z28]) :: (row 4 eBool A6 ((p0.nodes.length : Int).toNat) x19) :: G1) [(0, .pointer (some ⟨b3, 0, none⟩)), (2, .int .i64 x6), (7, .pointer (some ⟨b4, 0, none⟩)), (9, .pointer (some ⟨b5, 0, none⟩)), (12, .int .i64 x22), (13, .int .i64 e7), (14, .pointer (some ⟨b9, 0, none⟩)), (121, .slice A12 e5.kids.length c11), (122, .int .i64 (e5.kids.length : Int)), (123, .int .i64 x22)] _) a w' hf hh
               clear hf hh
               refine T.seq ?_
               refine T.held [box b9 131 [.int .i64 z23, .int .i64 z24, .int .i64 z25, .int .i64 z26, .int .i64 z32, .int .i64 z33, .int .i64 z34, .int .i64 z35, .bool z27, .bool z36], box b5 97 [.int .i64 e5.kind, .slice A11 e5.elems.length c10, .slice A12 e5.kids.length c11, .slice A13 e5.seps.length c12, .slice A14 e5.tids.length c13], box b4 131 [.int .i64 x7, .int .i64 x8, .int .i64 x9, .int .i64 x10, .int .i64 x11, .int .i64 x12, .int .i64 x13, .int .i64 x14, .bool x15, .bool x16]] (by kernel_rfl) ?_
               refine TA.take 0 (.pointer (some ⟨b3, 0, none⟩)) rfl (by kernel_rfl) (by kernel_rfl) (by kernel_rfl) (fun _ _ _ h => h) (Hp.old (View.le_refl _) (View.le_trans (View.le_trans (View.le_trans hV2 hV4) hV16) hV19) (.cons_cons _ (.cons_cons _ (.cons_cons _ (.cons _ (.cons _ (List.nil_sublist _)))))) (OldAll.box (OldAll.box (OldAll.box OldAll.nil)))) (by kernel_rfl) (fun _ _ => by kernel_rfl) ?_
               refine TA.take 1 (.int .i64 e7) rfl (by kernel_rfl) (by kernel_rfl) (by kernel_rfl) (fun _ _ _ h => h) (Hp.old (View.le_refl _) (View.le_trans (View.le_trans (View.le_trans hV2 hV4) hV16) hV19) (.cons_cons _ (.cons_cons _ (.cons_cons _ (.cons _ (.cons _ (List.nil_sublist _)))))) (OldAll.box (OldAll.box (OldAll.box OldAll.nil)))) (by kernel_rfl) (fun _ _ => by kernel_rfl) ?_
               refine TA.take 2 (.int .i64 x6) rfl (by kernel_rfl) (by kernel_rfl) (by kernel_rfl) (fun _ _ _ h => h) (Hp.old (View.le_refl _) (View.le_trans (View.le_trans (View.le_trans hV2 hV4) hV16) hV19) (.cons_cons _ (.cons_cons _ (.cons_cons _ (.cons _ (.cons _ (List.nil_sublist _)))))) (OldAll.box (OldAll.box (OldAll.box OldAll.nil)))) (by kernel_rfl) (fun _ _ => by kernel_rfl) ?_
               refine TA.take 3 (.int .i64 (IntKind.i64.wrap (x6 + 1))) rfl (by kernel_rfl) (by kernel_rfl) (by kernel_rfl) (fun _ _ _ h => h) (Hp.old (View.le_refl _) (View.le_trans (View.le_trans (View.le_trans hV2 hV4) hV16) hV19) (.cons_cons _ (.cons_cons _ (.cons_cons _ (.cons _ (.cons _ (List.nil_sublist _)))))) (OldAll.box (OldAll.box (OldAll.box OldAll.nil)))) (by kernel_rfl) (fun _ _ => by kernel_rfl) ?_
               refine TA.take 4 (.agg #[.int .i64 z23, .int .i64 z24, .int .i64 z25, .int .i64 z26, .int .i64 z32, .int .i64 z33, .int .i64 z34, .int .i64 z35, .bool z27, .bool z36]) rfl (by kernel_rfl) (by kernel_rfl) (by kernel_rfl) (fun _ _ _ h => h) (Hp.old (View.le_refl _) (View.le_trans (View.le_trans (View.le_trans hV2 hV4) hV16) hV19) (.cons_cons _ (.cons_cons _ (.cons_cons _ (.cons _ (.cons _ (List.nil_sublist _)))))) (OldAll.box (OldAll.box (OldAll.box OldAll.nil)))) (by kernel_rfl) (fun w' hh => exec_loadN (cs := [.int .i64 z23, .int .i64 z24, .int .i64 z25, .int .i64 z26, .int .i64 z32, .int .i64 z33, .int .i64 z34, .int .i64 z35, .bool z27, .bool z36]) rfl rfl (by kernel_rfl) (by kernel_rfl) (fun j u hj => (hh.box_at (i := 0) (cs := [.int .i64 z23, .int .i64 z24, .int .i64 z25, .int .i64 z26, .int .i64 z32, .int .i64 z33, .int .i64 z34, .int .i64 z35, .bool z27, .bool z36]) (by rfl) 0 j).trans (seg_at (n := 10) (by rfl) hj))) ?_
               refine TA.take 6 (.pointer (some ⟨b5, 4, none⟩)) rfl (by kernel_rfl) (by kernel_rfl) (by kernel_rfl) (fun _ _ _ h => h) (Hp.old (View.le_refl _) (View.le_trans (View.le_trans (View.le_trans hV2 hV4) hV16) hV19) (.cons_cons _ (.cons_cons _ (.cons_cons _ (.cons _ (.cons _ (List.nil_sublist _)))))) (OldAll.box (OldAll.box (OldAll.box OldAll.nil)))) (by kernel_rfl) (fun _ _ => by kernel_rfl) ?_
               refine TA.take 7 (.slice A14 e5.tids.length c13) rfl (by kernel_rfl) (by kernel_rfl) (by kernel_rfl) (fun _ _ _ h => h) (Hp.old (View.le_refl _) (View.le_trans (View.le_trans (View.le_trans hV2 hV4) hV16) hV19) (.cons_cons _ (.cons_cons _ (.cons_cons _ (.cons _ (.cons _ (List.nil_sublist _)))))) (OldAll.box (OldAll.box (OldAll.box OldAll.nil)))) (by kernel_rfl) (fun w' hh => exec_load1 rfl rfl (by kernel_rfl) (hh.cellBox (i := 1) (by rfl) 4)) ?_
               refine TA.take 8 (.int .i64 x22) rfl (by kernel_rfl) (by kernel_rfl) (by kernel_rfl) (fun _ _ _ h => h) (Hp.old (View.le_refl _) (View.le_trans (View.le_trans (View.le_trans hV2 hV4) hV16) hV19) (.cons_cons _ (.cons_cons _ (.cons_cons _ (.cons _ (.cons _ (List.nil_sublist _)))))) (OldAll.box (OldAll.box (OldAll.box OldAll.nil)))) (by kernel_rfl) (fun _ _ => by kernel_rfl) ?_
               obtain ⟨e10, hb20, hX12⟩ := Option.bind_eq_some_iff.1 hX12
               obtain ⟨hi28, hi29, hi30⟩ := idx_some hb20
               refine TA.take 9 (.pointer (some ((sadr A14).add (x22.toNat * 1)))) rfl (by kernel_rfl) (by kernel_rfl) (by kernel_rfl) (fun _ _ _ h => h) (Hp.old (View.le_refl _) (View.le_trans (View.le_trans (View.le_trans hV2 hV4) hV16) hV19) (.cons_cons _ (.cons_cons _ (.cons_cons _ (.cons _ (.cons _ (List.nil_sublist _)))))) (OldAll.box (OldAll.box (OldAll.box OldAll.nil)))) (by kernel_rfl) (fun w' hh => exec_indexAddr (e := 3) (s := 1) rfl rfl rfl (by kernel_rfl) (by kernel_rfl) hi28 hi29 ((SlOk.mono hs13 (View.le_trans hV16 hV19)).some_ hi30 (by decide))) ?_
               refine TA.take 10 (.int .i64 e10) rfl (by kernel_rfl) (by kernel_rfl) (by kernel_rfl) (fun _ _ _ h => h) (Hp.old (View.le_refl _) (View.le_trans (View.le_trans (View.le_trans hV2 hV4) hV16) hV19) (.cons_cons _ (.cons_cons _ (.cons_cons _ (.cons _ (.cons _ (List.nil_sublist _)))))) (OldAll.box (OldAll.box (OldAll.box OldAll.nil)))) (by kernel_rfl) (fun w' hh => exec_load1 rfl rfl (by kernel_rfl) (hh.cell_view (SlOk.cellF0 (E := eInt) (SlOk.mono hs13 (View.le_trans hV16 hV19)) hi30 (fun _ _ _ h => h) rfl))) ?_
               refine TA.all [5] (by kernel_rfl) rfl ⟨?_, trivial⟩
               obtain ⟨q7, hz5, hX12⟩ := Option.bind_eq_some_iff.1 hX12
               refine TA.br rfl (W1.callI 74 [.pointer (some ⟨b3, 0, none⟩), .int .i64 e7, .int .i64 (IntKind.i64.wrap (x6 + 1)), .agg #[.int .i64 z23, .int .i64 z24, .int .i64 z25, .int .i64 z26, .int .i64 z32, .int .i64 z33, .int .i64 z34, .int .i64 z35, .bool z27, .bool z36]] (fun v w' => ∃ (z37 : List Bool) (z38 : Int) (z39 : Int) (z40 : Int), q7 = (z37, z38, z39, z40) ∧ ∃ (V25 : View), View.le V19 V25 ∧ v = .int .i64 z40 ∧ Hp w V25 ((box b3 128 [.int .i64 p0.root, .slice A1 p0.nodes.length c1, .slice A6 z37.length ((p0.nodes.length : Int).toNat), .int .i64 z38, .int .i64 z39]) :: (row 4 eBool A6 ((p0.nodes.length : Int).toNat) z37) :: (box b9 131 [.int .i64 z23, .int .i64 z24, .int .i64 z25, .int .i64 z26, .int .i64 z32, .int .i64 z33, .int .i64 z34, .int .i64 z35, .bool z27, .bool z36]) :: (box b5 97 [.int .i64 e5.kind, .slice A11 e5.elems.length c10, .slice A12 e5.kids.length c11, .slice A13 e5.seps.length c12, .slice A14 e5.tids.length c13]) :: (box b4 131 [.int .i64 x7, .int .i64 x8, .int .i64 x9, .int .i64 x10, .int .i64 x11, .int .i64 x12, .int .i64 x13, .int .i64 x14, .bool x15, .bool x16]) :: G1) w') (by kernel_rfl) (fun _ => by kernel_rfl) (fun w' hh => ih1 _ _ hz5 x19 x20 z28 e7 (IntKind.i64.wrap (x6 + 1)) z23 z24 z25 z26 z32 z33 z34 z35 z27 z36 rfl V19 ((box b9 131 [.int .i64 z23, .int .i64 z24, .int .i64 z25, .int .i64 z26, .int .i64 z32, .int .i64 z33, .int .i64 z34, .int .i64 z35, .bool z27, .bool z36]) :: (box b5 97 [.int .i64 e5.kind, .slice A11 e5.elems.length c10, .slice A12 e5.kids.length c11, .slice A13 e5.seps.length c12, .slice A14 e5.tids.length c13]) :: (box b4 131 [.int .i64 x7, .int .i64 x8, .int .i64 x9, .int .i64 x10, .int .i64 x11, .int .i64 x12, .int .i64 x13, .int .i64 x14, .bool x15, .bool x16]) :: G1) w' (View.le_trans (View.le_trans hV4 hV16) hV19) ((hh.sub (.cons_cons _ (.cons_cons _ (.cons_cons _ (.cons_cons _ (.cons_cons _ (List.Sublist.refl _))))))).perm (List.Perm.trans (List.Perm.cons _ (List.Perm.cons _ (List.Perm.swap _ _ _))) (List.Perm.trans (List.Perm.cons _ (List.Perm.swap _ _ _)) (List.Perm.trans (List.Perm.swap _ _ _) (List.Perm.cons _ (List.Perm.trans (List.Perm.cons _ (List.Perm.cons _ (List.Perm.swap _ _ _))) (List.Perm.trans (List.Perm.cons _ (List.Perm.swap _ _ _)) (List.Perm.trans (List.Perm.swap _ _ _) (List.Perm.refl _)))))))))) ?_)
               rintro v w' ⟨z37, z38, z39, z40, rfl, V25, hV25, rfl, hh⟩
               try dsimp only at hX12
               refine ⟨V25, ((box b9 131 [.int .i64 z23, .int .i64 z24, .int .i64 z25, .int .i64 z26, .int .i64 z32, .int .i64 z33, .int .i64 z34, .int .i64 z35, .bool z27, .bool z36]) :: (box b5 97 [.int .i64 e5.kind, .slice A11 e5.elems.length c10, .slice A12 e5.kids.length c11, .slice A13 e5.seps.length c12, .slice A14 e5.tids.length c13]) :: (box b4 131 [.int .i64 x7, .int .i64 x8, .int .i64 x9, .int .i64 x10, .int .i64 x11, .int .i64 x12, .int .i64 x13, .int .i64 x14, .bool x15, .bool x16]) :: (box b3 128 [.int .i64 p0.root, .slice A1 p0.nodes.length c1, .slice A6 z37.length ((p0.nodes.length : Int).toNat), .int .i64 z38, .int .i64 z39]) :: (row 4 eBool A6 ((p0.nodes.length : Int).toNat) z37) :: G1), (hh.sub (.cons_cons _ (.cons_cons _ (.cons_cons _ (.cons_cons _ (.cons_cons _ (List.Sublist.refl _))))))).perm (List.Perm.trans (List.Perm.cons _ (List.Perm.swap _ _ _)) (List.Perm.trans (List.Perm.swap _ _ _) (List.Perm.cons _ (List.Perm.trans (List.Perm.cons _ (List.Perm.swap _ _ _)) (List.Perm.trans (List.Perm.swap _ _ _) (List.Perm.cons _ (List.Perm.trans (List.Perm.cons _ (List.Perm.swap _ _ _)) (List.Perm.trans (List.Perm.swap _ _ _) (List.Perm.refl _))))))))), ?_⟩
               clear hh
               refine TA.on (Hp.old hV25 (View.le_trans (View.le_trans (View.le_trans hV2 hV4) hV16) hV19) (.cons_cons _ (.cons_cons _ (.cons_cons _ (.cons _ (.cons _ (List.nil_sublist _)))))) (OldAll.box (OldAll.box (OldAll.box OldAll.nil)))) ?_
               refine TA.take 11 (.bool (z40 != e10)) rfl (by kernel_rfl) (by kernel_rfl) (by kernel_rfl) (fun _ _ _ h => h) (Hp.old hV25 (View.le_trans (View.le_trans (View.le_trans hV2 hV4) hV16) hV19) (.cons_cons _ (.cons_cons _ (.cons_cons _ (.cons _ (.cons _ (List.nil_sublist _)))))) (OldAll.box (OldAll.box (OldAll.box OldAll.nil)))) (by kernel_rfl) (fun _ _ => by kernel_rfl) ?_
               refine TA.done (by kernel_rfl) ?_
               refine T.cond (z40 != e10) (by kernel_rfl) (by kernel_rfl) (fun hc24 => ?_) (fun hc24 => ?_)
               ·
                rw [hc24, cond_true] at hX12
                refine T.region ?_
                refine T.pure (.pointer (some ⟨b3, 0, none⟩)) (by kernel_rfl) (fun _ => by kernel_rfl) ?_
                obtain ⟨z41, hX18, hX12⟩ := Option.bind_eq_some_iff.1 hX12
                refine T.step (W1.within 75 [.pointer (some ⟨b3, 0, none⟩), .int .i64 3] (fun v w' => v = .tuple #[] ∧ Hp w V25 ((box b5 97 [.int .i64 e5.kind, .slice A11 e5.elems.length c10, .slice A12 e5.kids.length c11, .slice A13 e5.seps.length c12, .slice A14 e5.tids.length c13]) :: (box b4 131 [.int .i64 x7, .int .i64 x8, .int .i64 x9, .int .i64 x10, .int .i64 x11, .int .i64 x12, .int .i64 x13, .int .i64 x14, .bool x15, .bool x16]) :: (box b3 128 [.int .i64 p0.root, .slice A1 p0.nodes.length c1, .slice A6 z37.length ((p0.nodes.length : Int).toNat), .int .i64 z38, .int .i64 z41]) :: (row 4 eBool A6 ((p0.nodes.length : Int).toNat) z37) :: G1) w') Try.func75 rfl rfl (by kernel_rfl) (fun _ => by kernel_rfl) rfl ?_ ?_)
                ·
                 refine T.seq ?_
                 refine T.region ?_
                 refine T.pure (.pointer (some ⟨b3, 0, none⟩)) (by kernel_rfl) (fun _ => by kernel_rfl) ?_
                 refine T.pure (.pointer (some ⟨b3, 0, none⟩)) (by kernel_rfl) (fun _ => by kernel_rfl) ?_
                 refine T.pure (.pointer (some ⟨b3, 4, none⟩)) (by kernel_rfl) (fun _ => by kernel_rfl) ?_
                 refine T.look (.int .i64 z39) (by kernel_rfl) (fun w' hh => exec_load1 rfl rfl (by kernel_rfl) (hh.cellBox (i := 3) (by rfl) 4)) ?_
                 refine T.pure (.bool (z39 == 0)) (by kernel_rfl) (fun _ => by kernel_rfl) ?_
                 refine T.nil ?_
                 refine T.cond (z39 == 0) (by kernel_rfl) (by kernel_rfl) (fun hc25 => ?_) (fun hc25 => ?_)
                 ·
                  rw [hc25, cond_true] at hX18
                  refine T.region ?_
                  refine T.pure (.pointer (some ⟨b3, 0, none⟩)) (by kernel_rfl) (fun _ => by kernel_rfl) ?_
                  refine T.pure (.int .i64 3) (by kernel_rfl) (fun _ => by kernel_rfl) ?_
                  refine T.pure (.pointer (some ⟨b3, 0, none⟩)) (by kernel_rfl) (fun _ => by kernel_rfl) ?_
                  refine T.pure (.pointer (some ⟨b3, 4, none⟩)) (by kernel_rfl) (fun _ => by kernel_rfl) ?_
                  refine T.step (W1.store 3 [.int .i64 p0.root, .slice A1 p0.nodes.length c1, .slice A6 z37.length ((p0.nodes.length : Int).toNat), .int .i64 z38, .int .i64 3] ((box b9 131 [.int .i64 z23, .int .i64 z24, .int .i64 z25, .int .i64 z26, .int .i64 z32, .int .i64 z33, .int .i64 z34, .int .i64 z35, .bool z27, .bool z36]) :: (box b5 97 [.int .i64 e5.kind, .slice A11 e5.elems.length c10, .slice A12 e5.kids.length c11, .slice A13 e5.seps.length c12, .slice A14 e5.tids.length c13]) :: (box b4 131 [.int .i64 x7, .int .i64 x8, .int .i64 x9, .int .i64 x10, .int .i64 x11, .int .i64 x12, .int .i64 x13, .int .i64 x14, .bool x15, .bool x16]) :: (box b3 128 [.int .i64 p0.root, .slice A1 p0.nodes.length c1, .slice A6 z37.length ((p0.nodes.length : Int).toNat), .int .i64 z38, .int .i64 3]) :: (row 4 eBool A6 ((p0.nodes.length : Int).toNat) z37) :: G1) (by rfl) rfl (by kernel_rfl) (fun w' hw => exec_store (vs := [.int .i64 3]) rfl rfl rfl rfl (by kernel_rfl) (one_of rfl) (by simp) rfl hw) ?_)
                  refine T.nil ?_
                  cases hX18
                  repeat first | refine T.unthen ?_ | refine T.unblock ?_
                  exact T.end0 rfl fun w' hh => ⟨_, rfl, And.intro rfl (hh.sub (.cons _ (.cons_cons _ (.cons_cons _ (.cons_cons _ (.cons_cons _ (List.Sublist.refl _)))))))⟩
                 ·
                  rw [hc25, cond_false] at hX18
                  refine T.skip_code ?_
                  cases hX18
                  repeat first | refine T.unthen ?_ | refine T.unblock ?_
                  exact T.end0 rfl fun w' hh => ⟨_, rfl, And.intro rfl (hh.sub (.cons _ (.cons_cons _ (.cons_cons _ (.cons_cons _ (.cons_cons _ (List.Sublist.refl _)))))))⟩
                ·
                 rintro v w' ⟨rfl, hh⟩
                 refine ⟨V25, ((box b5 97 [.int .i64 e5.kind, .slice A11 e5.elems.length c10, .slice A12 e5.kids.length c11, .slice A13 e5.seps.length c12, .slice A14 e5.tids.length c13]) :: (box b4 131 [.int .i64 x7, .int .i64 x8, .int .i64 x9, .int .i64 x10, .int .i64 x11, .int .i64 x12, .int .i64 x13, .int .i64 x14, .bool x15, .bool x16]) :: (box b3 128 [.int .i64 p0.root, .slice A1 p0.nodes.length c1, .slice A6 z37.length ((p0.nodes.length : Int).toNat), .int .i64 z38, .int .i64 z41]) :: (row 4 eBool A6 ((p0.nodes.length : Int).toNat) z37) :: G1), hh, ?_⟩
                 clear hh
                 refine T.nil ?_
                 cases hX12
                 exact fun a w' hf hh => Exists.intro z37 (Exists.intro z38 (Exists.intro z41 (And.intro rfl (Exists.intro V25 (And.intro (View.le_trans hV19 hV25) (And.intro ((((((((Fr.nil hf).pick hf 123 rfl).pick hf 122 rfl).pick hf 121 rfl).pick hf 9 rfl).pick hf 7 rfl).pick hf 2 rfl).pick hf 0 rfl) (hh.sub (.cons_cons _ (.cons_cons _ (.cons_cons _ (.cons_cons _ (List.Sublist.refl _))))))))))))
               ·
                rw [hc24, cond_false] at hX12
                refine T.skip_code ?_
                cases hX12
                exact fun a w' hf hh => Exists.intro z37 (Exists.intro z38 (Exists.intro z39 (And.intro rfl (Exists.intro V25 (And.intro (View.le_trans hV19 hV25) (And.intro ((((((((Fr.nil hf).pick hf 123 rfl).pick hf 122 rfl).pick hf 121 rfl).pick hf 9 rfl).pick hf 7 rfl).pick hf 2 rfl).pick hf 0 rfl) (hh.sub (.cons _ (.cons_cons _ (.cons_cons _ (.cons_cons _ (.cons_cons _ (List.Sublist.refl _)))))))))))))
            ·
             rintro a w' ⟨z20, z21, z22, rfl, V18, hV18, hf, hh⟩
             try dsimp only at hY3
             refine (?_ : T 175 w V18 ((box b5 97 [.int .i64 e5.kind, .slice A11 e5.elems.length c10, .slice A12 e5.kids.length c11, .slice A13 e5.seps.length c12, .slice A14 e5.tids.length c13]) :: (box b4 131 [.int .i64 x7, .int .i64 x8, .int .i64 x9, .int .i64 x10, .int .i64 x11, .int .i64 x12, .int .i64 x13, .int .i64 x14, .bool x15, .bool x16]) :: (box b3 128 [.int .i64 p0.root, .slice A1 p0.nodes.length c1, .slice A6 z20.length ((p0.nodes.length : Int).toNat), .int .i64 z21, .int .i64 z22]) :: (row 4 eBool A6 ((p0.nodes.length : Int).toNat) z20) :: G1) [(0, .pointer (some ⟨b3, 0, none⟩)), (2, .int .i64 x6), (7, .pointer (some ⟨b4, 0, none⟩)), (9, .pointer (some ⟨b5, 0, none⟩)), (121, .slice A12 e5.kids.length c11), (122, .int .i64 (e5.kids.length : Int)), (123, .int .i64 x22)] _) a w' hf hh
             clear hf hh
             refine T.region ?_
             refine T.pure (.int .i64 (IntKind.i64.wrap (x22 + 1))) (by kernel_rfl) (fun _ => by kernel_rfl) ?_
             refine T.pure (.int .i64 (IntKind.i64.wrap (x22 + 1))) (by kernel_rfl) (fun _ => by kernel_rfl) ?_
             refine T.nil ?_
             cases hY3
             exact fun a w' hf hh => Exists.intro (z20, z21, z22, IntKind.i64.wrap (x22 + 1)) (And.intro rfl (Exists.intro z20 (Exists.intro z21 (Exists.intro z22 (Exists.intro (IntKind.i64.wrap (x22 + 1)) (And.intro rfl (Exists.intro V18 (And.intro (View.le_trans hV16 hV18) (And.intro ((((((((Fr.nil hf).pick hf 123 rfl).pick hf 122 rfl).pick hf 121 rfl).pick hf 9 rfl).pick hf 7 rfl).pick hf 2 rfl).pick hf 0 rfl) (hh.sub (.cons_cons _ (.cons_cons _ (.cons_cons _ (.cons_cons _ (List.Sublist.refl _)))))))))))))))
           ·
            rw [hc19, cond_false] at hY3
            refine T.exit ?_
            cases hY3
            cases (hr6 _ rfl)
            exact fun a w' hf hh => Exists.intro x19 (Exists.intro x20 (Exists.intro x21 (And.intro rfl (Exists.intro V16 (And.intro hV16 (And.intro ((Fr.nil hf).pick hf 9 rfl) (hh.sub (.cons_cons _ (.cons _ (.cons_cons _ (.cons_cons _ (List.Sublist.refl _))))))))))))
         ·
          rintro a w' ⟨z17, z18, z19, rfl, V17, hV17, hf, hh⟩
          try dsimp only at hS1
          refine (?_ : T 175 w V17 ((box b5 97 [.int .i64 e5.kind, .slice A11 e5.elems.length c10, .slice A12 e5.kids.length c11, .slice A13 e5.seps.length c12, .slice A14 e5.tids.length c13]) :: (box b3 128 [.int .i64 p0.root, .slice A1 p0.nodes.length c1, .slice A6 z17.length ((p0.nodes.length : Int).toNat), .int .i64 z18, .int .i64 z19]) :: (row 4 eBool A6 ((p0.nodes.length : Int).toNat) z17) :: G1) [(9, .pointer (some ⟨b5, 0, none⟩))] _) a w' hf hh
          clear hf hh
          refine T.seq ?_
          refine T.region ?_
          refine T.look (.agg #[.int .i64 e5.kind, .slice A11 e5.elems.length c10, .slice A12 e5.kids.length c11, .slice A13 e5.seps.length c12, .slice A14 e5.tids.length c13]) (by kernel_rfl) (fun w' hh => exec_loadN (cs := [.int .i64 e5.kind, .slice A11 e5.elems.length c10, .slice A12 e5.kids.length c11, .slice A13 e5.seps.length c12, .slice A14 e5.tids.length c13]) rfl rfl (by kernel_rfl) (by kernel_rfl) (fun j u hj => (hh.box_at (i := 0) (cs := [.int .i64 e5.kind, .slice A11 e5.elems.length c10, .slice A12 e5.kids.length c11, .slice A13 e5.seps.length c12, .slice A14 e5.tids.length c13]) (by rfl) 0 j).trans (seg_at (n := 5) (by rfl) hj))) ?_
          obtain ⟨r11, hb21, hS1⟩ := Option.bind_eq_some_iff.1 hS1
          refine T.step (W1.call (vSc eInt) r11 60 #[.agg #[.int .i64 e5.kind, .slice A11 e5.elems.length c10, .slice A12 e5.kids.length c11, .slice A13 e5.seps.length c12, .slice A14 e5.tids.length c13]] (by kernel_rfl) (fun _ => by kernel_rfl) (fun w' hh => node_Greatest_l F e5 r11 hb21 w' A11 c10 (SlOk.mono (SlOk.mono hs10 hV17) hh.view) A12 c11 (SlOk.mono (SlOk.mono hs11 hV17) hh.view) A13 c12 (SlOk.mono (SlOk.mono hs12 hV17) hh.view) A14 c13 (SlOk.mono (SlOk.mono hs13 hV17) hh.view)) ?_)
          intro u V26 hV26 hu
          obtain rfl := sureInt _ _ _ hu
          refine T.pure (.int .i64 r11) (by kernel_rfl) (fun _ => by kernel_rfl) ?_
          refine T.nil ?_
          have hres := Option.some.inj hS1
          subst hres
          refine T.ret rfl ?_
          repeat first | refine T.unthen ?_ | refine T.unblock ?_
          exact T.ret1 rfl (ResIs.tmp rfl) fun w' hh => ⟨_, rfl, Exists.intro z17 (Exists.intro z18 (Exists.intro z19 (Exists.intro r11 (And.intro rfl (Exists.intro V26 (And.intro (View.le_trans hV17 hV26) (And.intro rfl (hh.sub (.cons _ (.cons_cons _ (.cons_cons _ (List.Sublist.refl _))))))))))))⟩
   refine T.step (W1.callI 74 [.pointer (some ⟨b3, 0, none⟩), .int .i64 p0.root, .int .i64 0, .agg #[.int .i64 0, .int .i64 0, .int .i64 0, .int .i64 0, .int .i64 0, .int .i64 0, .int .i64 0, .int .i64 0, .bool false, .bool false]] (fun v w' => ∃ (z42 : List Bool) (z43 : Int) (z44 : Int) (z45 : Int), q2 = (z42, z43, z44, z45) ∧ ∃ (V27 : View), View.le V2 V27 ∧ v = .int .i64 z45 ∧ Hp w V27 [box b3 128 [.int .i64 p0.root, .slice A1 p0.nodes.length c1, .slice A6 z42.length ((p0.nodes.length : Int).toNat), .int .i64 z43, .int .i64 z44], row 4 eBool A6 ((p0.nodes.length : Int).toNat) z42, box b1 24 [.int .i64 p0.root, .slice A1 p0.nodes.length c1]] w') (by kernel_rfl) (fun _ => by kernel_rfl) (fun w' hh => hq1 (List.replicate ((p0.nodes.length : Int).toNat) (false : Bool)) (-1) 0 p0.root 0 0 0 0 0 0 0 0 0 false false rfl V2 [box b1 24 [.int .i64 p0.root, .slice A1 p0.nodes.length c1]] w' (View.le_refl _) (hh.sub (.cons_cons _ (.cons_cons _ (.cons_cons _ List.Sublist.slnil))))) ?_)
   rintro v w' ⟨z42, z43, z44, z45, rfl, V27, hV27, rfl, hh⟩
   try dsimp only at hF
   refine ⟨_, _, hh, ?_⟩
   clear hh
   refine T.nil ?_
   refine T.seq ?_
   refine T.seq ?_
   refine T.region ?_
   refine T.pure (.pointer (some ⟨b1, 1, none⟩)) (by kernel_rfl) (fun _ => by kernel_rfl) ?_
   refine T.look (.slice A1 p0.nodes.length c1) (by kernel_rfl) (fun w' hh => exec_load1 rfl rfl (by kernel_rfl) (hh.cellBox (i := 2) (by rfl) 1)) ?_
   refine T.pure (.int .i64 (p0.nodes.length : Int)) (by kernel_rfl) (fun _ => by kernel_rfl) ?_
   refine T.pure (.int .i64 0) (by kernel_rfl) (fun _ => by kernel_rfl) ?_
   refine T.nil ?_
   obtain ⟨z46, hz6, hF⟩ := Option.bind_eq_some_iff.1 hF
   refine T.mid (fun a w' => Fr 66 [(6, .pointer (some ⟨b3, 0, none⟩))] a ∧ Hp w V27 [box b3 128 [.int .i64 p0.root, .slice A1 p0.nodes.length c1, .slice A6 z42.length ((p0.nodes.length : Int).toNat), .int .i64 z43, .int .i64 z46], row 4 eBool A6 ((p0.nodes.length : Int).toNat) z42] w') ?_ ?_
   ·
    refine T.block ?_
    refine T.iter (fun s3 a w' => ∃ (x23 : Int) (x24 : Int), s3 = (x23, x24) ∧ Fr 66 [(6, .pointer (some ⟨b3, 0, none⟩)), (39, .slice A1 p0.nodes.length c1), (40, .int .i64 (p0.nodes.length : Int)), (41, .int .i64 x24)] a ∧ Hp w V27 [box b3 128 [.int .i64 p0.root, .slice A1 p0.nodes.length c1, .slice A6 z42.length ((p0.nodes.length : Int).toNat), .int .i64 z43, .int .i64 x23], row 4 eBool A6 ((p0.nodes.length : Int).toNat) z42] w') hz6 ?_ ?_
    ·
     exact fun a w' hf hh => Exists.intro z44 (Exists.intro 0 (And.intro rfl (And.intro (((((Fr.nil hf).pick hf 41 rfl).pick hf 40 rfl).pick hf 39 rfl).pick hf 6 rfl) (hh.sub (.cons_cons _ (.cons_cons _ (.cons _ List.Sublist.slnil)))))))
    ·
     rintro s3 y4 hY4 hr7 a w' ⟨x23, x24, rfl, hf, hh⟩
     refine (?_ : T 66 w V27 [box b3 128 [.int .i64 p0.root, .slice A1 p0.nodes.length c1, .slice A6 z42.length ((p0.nodes.length : Int).toNat), .int .i64 z43, .int .i64 x23], row 4 eBool A6 ((p0.nodes.length : Int).toNat) z42] [(6, .pointer (some ⟨b3, 0, none⟩)), (39, .slice A1 p0.nodes.length c1), (40, .int .i64 (p0.nodes.length : Int)), (41, .int .i64 x24)] _) a w' hf hh
     clear hf hh
     try dsimp only at hY4
     refine T.seq ?_
     refine T.region ?_
     refine T.pure (.bool (decide (x24 < (p0.nodes.length : Int)))) (by kernel_rfl) (fun _ => by kernel_rfl) ?_
     refine T.nil ?_
     refine T.seq ?_
     refine T.cond (decide (x24 < (p0.nodes.length : Int))) (by kernel_rfl) (by kernel_rfl) (fun hc26 => ?_) (fun hc26 => ?_)
     ·
      rw [hc26, cond_true] at hY4
      refine T.skip_code ?_
      obtain ⟨z47, hX19, hY4⟩ := Option.bind_eq_some_iff.1 hY4
      refine T.cut (fun a w' => Fr 66 [(6, .pointer (some ⟨b3, 0, none⟩)), (39, .slice A1 p0.nodes.length c1), (40, .int .i64 (p0.nodes.length : Int)), (41, .int .i64 x24)] a ∧ Hp w V27 [box b3 128 [.int .i64 p0.root, .slice A1 p0.nodes.length c1, .slice A6 z42.length ((p0.nodes.length : Int).toNat), .int .i64 z43, .int .i64 z47], row 4 eBool A6 ((p0.nodes.length : Int).toNat) z42] w') ?_ ?_
      ·
       refine T.block ?_
       refine T.seq ?_
       refine T.region ?_
       refine T.pure (.int .i64 x24) (by kernel_rfl) (fun _ => by kernel_rfl) ?_
       obtain ⟨e11, hb22, hX19⟩ := Option.bind_eq_some_iff.1 hX19
       obtain ⟨hi31, hi32, hi33⟩ := idx_some hb22
       obtain ⟨cs4, hr8, hc27⟩ := SlOk.elem (SlOk.mono hs1 (View.le_trans hV2 hV27)) hi33
       obtain ⟨A15, c14, A16, c15, A17, c16, A18, c17, rfl, hs14, hs15, hs16, hs17⟩ := hr8
       refine T.look (.pointer (some ((sadr A1).add (x24.toNat * 5)))) (by kernel_rfl) (fun w' hh => exec_indexAddr (e := 97) (s := 5) rfl rfl rfl (by kernel_rfl) (by kernel_rfl) hi31 hi32 ((SlOk.mono hs1 (View.le_trans hV2 hV27)).some_ hi33 (by decide))) ?_
       refine T.look (.agg #[.int .i64 e11.kind, .slice A15 e11.elems.length c14, .slice A16 e11.kids.length c15, .slice A17 e11.seps.length c16, .slice A18 e11.tids.length c17]) (by kernel_rfl) (fun w' hh => exec_loadN (cs := [.int .i64 e11.kind, .slice A15 e11.elems.length c14, .slice A16 e11.kids.length c15, .slice A17 e11.seps.length c16, .slice A18 e11.tids.length c17]) rfl rfl (by kernel_rfl) (by kernel_rfl) (fun j u hj => hh.cell_view (View.cell_mono (View.le_refl _) (hc27 j u hj).2))) ?_
       refine T.step (W1.new 97 [.int .i64 0, .slice none 0 0, .slice none 0 0, .slice none 0 0, .slice none 0 0] (fun b => .pointer (some ⟨b, 0, none⟩)) (by kernel_rfl) (fun _ => by kernel_rfl) (fun b12 => ?_))
       refine T.pure (.int .i64 x24) (by kernel_rfl) (fun _ => by kernel_rfl) ?_
       refine T.step (W1.store 0 [.int .i64 e11.kind, .slice A15 e11.elems.length c14, .slice A16 e11.kids.length c15, .slice A17 e11.seps.length c16, .slice A18 e11.tids.length c17] [box b12 97 [.int .i64 e11.kind, .slice A15 e11.elems.length c14, .slice A16 e11.kids.length c15, .slice A17 e11.seps.length c16, .slice A18 e11.tids.length c17], box b3 128 [.int .i64 p0.root, .slice A1 p0.nodes.length c1, .slice A6 z42.length ((p0.nodes.length : Int).toNat), .int .i64 z43, .int .i64 x23], row 4 eBool A6 ((p0.nodes.length : Int).toNat) z42] (by rfl) rfl (by kernel_rfl) (fun w' hw => exec_store (vs := [.int .i64 e11.kind, .slice A15 e11.elems.length c14, .slice A16 e11.kids.length c15, .slice A17 e11.seps.length c16, .slice A18 e11.tids.length c17]) rfl rfl rfl rfl (by kernel_rfl) (one_of rfl) (by simp) rfl hw) ?_)
       refine T.nil ?_
       obtain ⟨z48, hX20, hX19⟩ := Option.bind_eq_some_iff.1 hX19
       refine T.cut (fun a w' => Fr 66 [(6, .pointer (some ⟨b3, 0, none⟩)), (39, .slice A1 p0.nodes.length c1), (40, .int .i64 (p0.nodes.length : Int)), (41, .int .i64 x24), (58, .bool z48)] a ∧ Hp w V27 [box b3 128 [.int .i64 p0.root, .slice A1 p0.nodes.length c1, .slice A6 z42.length ((p0.nodes.length : Int).toNat), .int .i64 z43, .int .i64 x23], row 4 eBool A6 ((p0.nodes.length : Int).toNat) z42] w') ?_ ?_
       ·
        refine T.region ?_
        refine T.pure (.pointer (some ⟨b12, 0, none⟩)) (by kernel_rfl) (fun _ => by kernel_rfl) ?_
        refine T.look (.int .i64 e11.kind) (by kernel_rfl) (fun w' hh => exec_load1 rfl rfl (by kernel_rfl) (hh.cellBox (i := 0) (by rfl) 0)) ?_
        refine T.pure (.bool (e11.kind != 0)) (by kernel_rfl) (fun _ => by kernel_rfl) ?_
        refine T.pure (.bool (e11.kind != 0)) (by kernel_rfl) (fun _ => by kernel_rfl) ?_
        cases hg13 : (e11.kind != 0)
        ·
         skip
         rw [hg13, cond_false] at hX20
         refine T.pass (by kernel_rfl) (by kernel_rfl) ?_
         refine T.pass (by kernel_rfl) (by kernel_rfl) ?_
         refine T.pass (by kernel_rfl) (by kernel_rfl) ?_
         refine T.pass (by kernel_rfl) (by kernel_rfl) ?_
         refine T.pass (by kernel_rfl) (by kernel_rfl) ?_
         refine T.pass (by kernel_rfl) (by kernel_rfl) ?_
         refine T.pass (by kernel_rfl) (by kernel_rfl) ?_
         refine T.pass (by kernel_rfl) (by kernel_rfl) ?_
         refine T.pure (.bool false) (by kernel_rfl) (fun _ => by kernel_rfl) ?_
         refine T.nil ?_
         cases hX20
         exact fun a w' hf hh => And.intro ((((((Fr.nil hf).pick hf 58 rfl).pick hf 41 rfl).pick hf 40 rfl).pick hf 39 rfl).pick hf 6 rfl) (hh.sub (.cons _ (.cons_cons _ (.cons_cons _ List.Sublist.slnil))))
        ·
         skip
         rw [hg13, cond_true] at hX20
         refine T.pure (.pointer (some ⟨b3, 0, none⟩)) (by kernel_rfl) (fun _ => by kernel_rfl) ?_
         refine T.pure (.pointer (some ⟨b3, 0, none⟩)) (by kernel_rfl) (fun _ => by kernel_rfl) ?_
         refine T.pure (.pointer (some ⟨b3, 2, none⟩)) (by kernel_rfl) (fun _ => by kernel_rfl) ?_
         refine T.look (.slice A6 z42.length ((p0.nodes.length : Int).toNat)) (by kernel_rfl) (fun w' hh => exec_load1 rfl rfl (by kernel_rfl) (hh.cellBox (i := 1) (by rfl) 2)) ?_
         refine T.pure (.int .i64 x24) (by kernel_rfl) (fun _ => by kernel_rfl) ?_
         obtain ⟨e12, hb23, hX20⟩ := Option.bind_eq_some_iff.1 hX20
         obtain ⟨hi34, hi35, hi36⟩ := idx_some hb23
         refine T.look (.pointer (some ((sadr A6).add (x24.toNat * 1)))) (by kernel_rfl) (fun w' hh => exec_indexAddr (e := 4) (s := 1) rfl rfl rfl (by kernel_rfl) (by kernel_rfl) hi34 hi35 ((hh.row_slOk (i := 2) (by rfl)).some_ hi36 (by decide))) ?_
         refine T.look (.bool e12) (by kernel_rfl) (fun w' hh => exec_load1 rfl rfl (by kernel_rfl) (SlOk.wcellF0 (E := eBool) (hh.row_slOk (i := 2) (by rfl)) hi36 (fun _ _ _ h => h) rfl)) ?_
         refine T.pure (.bool (!e12)) (by kernel_rfl) (fun _ => by kernel_rfl) ?_
         refine T.pure (.bool (!e12)) (by kernel_rfl) (fun _ => by kernel_rfl) ?_
         refine T.nil ?_
         cases hX20
         exact fun a w' hf hh => And.intro ((((((Fr.nil hf).pick hf 58 rfl).pick hf 41 rfl).pick hf 40 rfl).pick hf 39 rfl).pick hf 6 rfl) (hh.sub (.cons _ (.cons_cons _ (.cons_cons _ List.Sublist.slnil))))
       ·
        rintro a w' ⟨hf, hh⟩
        refine (?_ : T 66 w V27 [box b3 128 [.int .i64 p0.root, .slice A1 p0.nodes.length c1, .slice A6 z42.length ((p0.nodes.length : Int).toNat), .int .i64 z43, .int .i64 x23], row 4 eBool A6 ((p0.nodes.length : Int).toNat) z42] [(6, .pointer (some ⟨b3, 0, none⟩)), (39, .slice A1 p0.nodes.length c1), (40, .int .i64 (p0.nodes.length : Int)), (41, .int .i64 x24), (58, .bool z48)] _) a w' hf hh
        clear hf hh
        refine T.cond z48 (by kernel_rfl) (by kernel_rfl) (fun hc28 => ?_) (fun hc28 => ?_)
        ·
         rw [hc28, cond_true] at hX19
         refine T.region ?_
         refine T.pure (.pointer (some ⟨b3, 0, none⟩)) (by kernel_rfl) (fun _ => by kernel_rfl) ?_
         obtain ⟨z49, hX21, hX19⟩ := Option.bind_eq_some_iff.1 hX19
         refine T.step (W1.within 75 [.pointer (some ⟨b3, 0, none⟩), .int .i64 3] (fun v w' => v = .tuple #[] ∧ Hp w V27 [box b3 128 [.int .i64 p0.root, .slice A1 p0.nodes.length c1, .slice A6 z42.length ((p0.nodes.length : Int).toNat), .int .i64 z43, .int .i64 z49], row 4 eBool A6 ((p0.nodes.length : Int).toNat) z42] w') Try.func75 rfl rfl (by kernel_rfl) (fun _ => by kernel_rfl) rfl ?_ ?_)
         ·
          refine T.seq ?_
          refine T.region ?_
          refine T.pure (.pointer (some ⟨b3, 0, none⟩)) (by kernel_rfl) (fun _ => by kernel_rfl) ?_
          refine T.pure (.pointer (some ⟨b3, 0, none⟩)) (by kernel_rfl) (fun _ => by kernel_rfl) ?_
          refine T.pure (.pointer (some ⟨b3, 4, none⟩)) (by kernel_rfl) (fun _ => by kernel_rfl) ?_
          refine T.look (.int .i64 x23) (by kernel_rfl) (fun w' hh => exec_load1 rfl rfl (by kernel_rfl) (hh.cellBox (i := 0) (by rfl) 4)) ?_
          refine T.pure (.bool (x23 == 0)) (by kernel_rfl) (fun _ => by kernel_rfl) ?_
          refine T.nil ?_
          refine T.cond (x23 == 0) (by kernel_rfl) (by kernel_rfl) (fun hc29 => ?_) (fun hc29 => ?_)
          ·
           rw [hc29, cond_true] at hX21
           refine T.region ?_
           refine T.pure (.pointer (some ⟨b3, 0, none⟩)) (by kernel_rfl) (fun _ => by kernel_rfl) ?_
           refine T.pure (.int .i64 3) (by kernel_rfl) (fun _ => by kernel_rfl) ?_
           refine T.pure (.pointer (some ⟨b3, 0, none⟩)) (by kernel_rfl) (fun _ => by kernel_rfl) ?_
           refine T.pure (.pointer (some ⟨b3, 4, none⟩)) (by kernel_rfl) (fun _ => by kernel_rfl) ?_
           refine T.step (W1.store 0 [.int .i64 p0.root, .slice A1 p0.nodes.length c1, .slice A6 z42.length ((p0.nodes.length : Int).toNat), .int .i64 z43, .int .i64 3] [box b3 128 [.int .i64 p0.root, .slice A1 p0.nodes.length c1, .slice A6 z42.length ((p0.nodes.length : Int).toNat), .int .i64 z43, .int .i64 3], row 4 eBool A6 ((p0.nodes.length : Int).toNat) z42] (by rfl) rfl (by kernel_rfl) (fun w' hw => exec_store (vs := [.int .i64 3]) rfl rfl rfl rfl (by kernel_rfl) (one_of rfl) (by simp) rfl hw) ?_)
           refine T.nil ?_
           cases hX21
           repeat first | refine T.unthen ?_ | refine T.unblock ?_
           exact T.end0 rfl fun w' hh => ⟨_, rfl, And.intro rfl (hh.sub (.cons_cons _ (.cons_cons _ List.Sublist.slnil)))⟩
          ·
           rw [hc29, cond_false] at hX21
           refine T.skip_code ?_
           cases hX21
           repeat first | refine T.unthen ?_ | refine T.unblock ?_
           exact T.end0 rfl fun w' hh => ⟨_, rfl, And.intro rfl (hh.sub (.cons_cons _ (.cons_cons _ List.Sublist.slnil)))⟩
         ·
          rintro v w' ⟨rfl, hh⟩
          refine ⟨V27, [box b3 128 [.int .i64 p0.root, .slice A1 p0.nodes.length c1, .slice A6 z42.length ((p0.nodes.length : Int).toNat), .int .i64 z43, .int .i64 z49], row 4 eBool A6 ((p0.nodes.length : Int).toNat) z42], hh, ?_⟩
          clear hh
          refine T.nil ?_
          cases hX19
          exact fun a w' hf hh => And.intro (((((Fr.nil hf).pick hf 41 rfl).pick hf 40 rfl).pick hf 39 rfl).pick hf 6 rfl) (hh.sub (.cons_cons _ (.cons_cons _ List.Sublist.slnil)))
        ·
         rw [hc28, cond_false] at hX19
         refine T.skip_code ?_
         cases hX19
         exact fun a w' hf hh => And.intro (((((Fr.nil hf).pick hf 41 rfl).pick hf 40 rfl).pick hf 39 rfl).pick hf 6 rfl) (hh.sub (.cons_cons _ (.cons_cons _ List.Sublist.slnil)))
      ·
       rintro a w' ⟨hf, hh⟩
       refine (?_ : T 66 w V27 [box b3 128 [.int .i64 p0.root, .slice A1 p0.nodes.length c1, .slice A6 z42.length ((p0.nodes.length : Int).toNat), .int .i64 z43, .int .i64 z47], row 4 eBool A6 ((p0.nodes.length : Int).toNat) z42] [(6, .pointer (some ⟨b3, 0, none⟩)), (39, .slice A1 p0.nodes.length c1), (40, .int .i64 (p0.nodes.length : Int)), (41, .int .i64 x24)] _) a w' hf hh
       clear hf hh
       refine T.region ?_
       refine T.pure (.int .i64 (IntKind.i64.wrap (x24 + 1))) (by kernel_rfl) (fun _ => by kernel_rfl) ?_
       refine T.pure (.int .i64 (IntKind.i64.wrap (x24 + 1))) (by kernel_rfl) (fun _ => by kernel_rfl) ?_
       refine T.nil ?_
       cases hY4
       exact fun a w' hf hh => Exists.intro (z47, IntKind.i64.wrap (x24 + 1)) (And.intro rfl (Exists.intro z47 (Exists.intro (IntKind.i64.wrap (x24 + 1)) (And.intro rfl (And.intro (((((Fr.nil hf).pick hf 41 rfl).pick hf 40 rfl).pick hf 39 rfl).pick hf 6 rfl) (hh.sub (.cons_cons _ (.cons_cons _ List.Sublist.slnil))))))))
     ·
      rw [hc26, cond_false] at hY4
      refine T.exit ?_
      cases hY4
      cases (hr7 _ rfl)
      exact fun a w' hf hh => And.intro ((Fr.nil hf).pick hf 6 rfl) (hh.sub (.cons_cons _ (.cons_cons _ List.Sublist.slnil)))
   ·
    rintro a w' ⟨hf, hh⟩
    refine (?_ : T 66 w V27 [box b3 128 [.int .i64 p0.root, .slice A1 p0.nodes.length c1, .slice A6 z42.length ((p0.nodes.length : Int).toNat), .int .i64 z43, .int .i64 z46], row 4 eBool A6 ((p0.nodes.length : Int).toNat) z42] [(6, .pointer (some ⟨b3, 0, none⟩))] _) a w' hf hh
    clear hf hh
    refine T.seq ?_
    refine T.region ?_
    refine T.pure (.pointer (some ⟨b3, 0, none⟩)) (by kernel_rfl) (fun _ => by kernel_rfl) ?_
    refine T.pure (.pointer (some ⟨b3, 0, none⟩)) (by kernel_rfl) (fun _ => by kernel_rfl) ?_
    refine T.pure (.pointer (some ⟨b3, 4, none⟩)) (by kernel_rfl) (fun _ => by kernel_rfl) ?_
    refine T.look (.int .i64 z46) (by kernel_rfl) (fun w' hh => exec_load1 rfl rfl (by kernel_rfl) (hh.cellBox (i := 0) (by rfl) 4)) ?_
    refine T.pure (.int .i64 z46) (by kernel_rfl) (fun _ => by kernel_rfl) ?_
    refine T.nil ?_
    cases hF
    refine T.ret rfl ?_
    exact T.ret1 rfl (ResIs.tmp rfl) fun w' hh => ⟨_, rfl, hh.below, (show _ from rfl)⟩

set_option maxRecDepth 100000 in
set_option maxHeartbeats 4000000 in
theorem tree_All_l (F : Nat) (p0 : DTree) (r : ((List DElem)) × Int) (hF : tree_All F p0 = some r) (w : World) (A1 : Option Addr) (c1 : Nat) (hs1 : SlOk (vw w) eNode A1 c1 p0.nodes) :
    Calls Try.prog 17 #[.agg #[.int .i64 p0.root, .slice A1 p0.nodes.length c1]] w (Post (vT2 (vSc (eList eElem)) (vSc eInt)) r w) := by
 unfold tree_All at hF
 refine T.startM (l := [.agg #[.int .i64 p0.root, .slice A1 p0.nodes.length c1]]) Try.func17 rfl rfl rfl ?_
 refine T.seq ?_
 refine T.region ?_
 refine T.step (W1.new 24 [.int .i64 p0.root, .slice A1 p0.nodes.length c1] (fun b => .pointer (some ⟨b, 0, none⟩)) (by kernel_rfl) (fun _ => by kernel_rfl) (fun b1 => ?_))
 refine T.pure (.slice none 0 0) (by kernel_rfl) (fun _ => by kernel_rfl) ?_
 refine T.pure (.int .i64 0) (by kernel_rfl) (fun _ => by kernel_rfl) ?_
 refine T.nil ?_
 refine T.seq ?_
 refine T.seq ?_
 refine T.region ?_
 refine T.look (.agg #[.int .i64 p0.root, .slice A1 p0.nodes.length c1]) (by kernel_rfl) (fun w' hh => exec_loadN (cs := [.int .i64 p0.root, .slice A1 p0.nodes.length c1]) rfl rfl (by kernel_rfl) (by kernel_rfl) (fun j u hj => (hh.box_at (i := 0) (cs := [.int .i64 p0.root, .slice A1 p0.nodes.length c1]) (by rfl) 0 j).trans (seg_at (n := 2) (by rfl) hj))) ?_
 obtain ⟨r1, hb1, hF⟩ := Option.bind_eq_some_iff.1 hF
 refine T.step (W1.call (vSc eInt) r1 47 #[.agg #[.int .i64 p0.root, .slice A1 p0.nodes.length c1]] (by kernel_rfl) (fun _ => by kernel_rfl) (fun w' hh => tree_Check_l F p0 r1 hb1 w' A1 c1 (SlOk.mono hs1 hh.view)) ?_)
 intro u V1 hV1 hu
 obtain rfl := sureInt _ _ _ hu
 refine T.pure (.int .i64 r1) (by kernel_rfl) (fun _ => by kernel_rfl) ?_
 refine T.nil ?_
 refine T.seq ?_
 refine T.region ?_
 refine T.pure (.int .i64 r1) (by kernel_rfl) (fun _ => by kernel_rfl) ?_
 refine T.pure (.bool (r1 != 0)) (by kernel_rfl) (fun _ => by kernel_rfl) ?_
 refine T.nil ?_
 refine T.cond (r1 != 0) (by kernel_rfl) (by kernel_rfl) (fun hc1 => ?_) (fun hc1 => ?_)
 ·
  rw [hc1, cond_true] at hF
  refine T.seq ?_
  refine T.region ?_
  refine T.pure (.int .i64 r1) (by kernel_rfl) (fun _ => by kernel_rfl) ?_
  refine T.pure (.slice none 0 0) (by kernel_rfl) (fun _ => by kernel_rfl) ?_
  refine T.pure (.int .i64 r1) (by kernel_rfl) (fun _ => by kernel_rfl) ?_
  refine T.nil ?_
  cases hF
  refine T.ret rfl ?_
  refine T.leaveM [box b1 24 [.int .i64 p0.root, .slice A1 p0.nodes.length c1]] [] (fun w' hh => hh.sub (.cons_cons _ List.Sublist.slnil)) ?_
  exact T.ret2 rfl (ResIs.tmp rfl) (ResIs.tmp rfl) fun w' hh => ⟨_, rfl, hh.below, (vT2.mk ⟨_, _, rfl, (SlOk.nil _ _)⟩ (show _ from rfl))⟩
 ·
  rw [hc1, cond_false] at hF
  refine T.skip_code ?_
  refine T.seq ?_
  refine T.region ?_
  refine T.step (W1.new 34 [.slice none 0 0] (fun b => .pointer (some ⟨b, 0, none⟩)) (by kernel_rfl) (fun _ => by kernel_rfl) (fun b2 => ?_))
  refine T.nil ?_
  refine T.seq ?_
  refine T.seq ?_
  refine T.region ?_
  refine T.look (.agg #[.int .i64 p0.root, .slice A1 p0.nodes.length c1]) (by kernel_rfl) (fun w' hh => exec_loadN (cs := [.int .i64 p0.root, .slice A1 p0.nodes.length c1]) rfl rfl (by kernel_rfl) (by kernel_rfl) (fun j u hj => (hh.box_at (i := 1) (cs := [.int .i64 p0.root, .slice A1 p0.nodes.length c1]) (by rfl) 0 j).trans (seg_at (n := 2) (by rfl) hj))) ?_
  refine T.step (W1.within 48 [.agg #[.int .i64 p0.root, .slice A1 p0.nodes.length c1]] (fun v w' => ∃ (b4 : Nat) (b3 : Nat), v = .func (.func 77) #[] #[.pointer (some ⟨b4, 0, none⟩), .pointer (some ⟨b3, 0, none⟩)] ∧ Hp w V1 [box b4 133 [.func (.func 76) #[] #[.pointer (some ⟨b3, 0, none⟩), .pointer (some ⟨b4, 0, none⟩)]], box b3 24 [.int .i64 p0.root, .slice A1 p0.nodes.length c1], box b2 34 [.slice none 0 0], box b1 24 [.int .i64 p0.root, .slice A1 p0.nodes.length c1]] w') Try.func48 rfl rfl (by kernel_rfl) (fun _ => by kernel_rfl) rfl ?_ ?_)
  ·
   refine T.seq ?_
   refine T.region ?_
   refine T.step (W1.new 24 [.int .i64 p0.root, .slice A1 p0.nodes.length c1] (fun b => .pointer (some ⟨b, 0, none⟩)) (by kernel_rfl) (fun _ => by kernel_rfl) (fun b3 => ?_))
   refine T.pure (.nilFunc) (by kernel_rfl) (fun _ => by kernel_rfl) ?_
   refine T.nil ?_
   refine T.seq ?_
   refine T.region ?_
   refine T.step (W1.new 133 [.nilFunc] (fun b => .pointer (some ⟨b, 0, none⟩)) (by kernel_rfl) (fun _ => by kernel_rfl) (fun b4 => ?_))
   refine T.nil ?_
   refine T.seq ?_
   refine T.region ?_
   refine T.pure (.func (.func 76) #[] #[.pointer (some ⟨b3, 0, none⟩), .pointer (some ⟨b4, 0, none⟩)]) (by kernel_rfl) (fun _ => by kernel_rfl) ?_
   refine T.step (W1.store 0 [.func (.func 76) #[] #[.pointer (some ⟨b3, 0, none⟩), .pointer (some ⟨b4, 0, none⟩)]] [box b4 133 [.func (.func 76) #[] #[.pointer (some ⟨b3, 0, none⟩), .pointer (some ⟨b4, 0, none⟩)]], box b3 24 [.int .i64 p0.root, .slice A1 p0.nodes.length c1], box b2 34 [.slice none 0 0], box b1 24 [.int .i64 p0.root, .slice A1 p0.nodes.length c1]] (by rfl) rfl (by kernel_rfl) (fun w' hw => exec_store (vs := [.func (.func 76) #[] #[.pointer (some ⟨b3, 0, none⟩), .pointer (some ⟨b4, 0, none⟩)]]) rfl rfl rfl rfl (by kernel_rfl) (one_of rfl) (by simp) rfl hw) ?_)
   refine T.nil ?_
   refine T.seq ?_
   refine T.region ?_
   refine T.pure (.func (.func 77) #[] #[.pointer (some ⟨b4, 0, none⟩), .pointer (some ⟨b3, 0, none⟩)]) (by kernel_rfl) (fun _ => by kernel_rfl) ?_
   refine T.pure (.func (.func 77) #[] #[.pointer (some ⟨b4, 0, none⟩), .pointer (some ⟨b3, 0, none⟩)]) (by kernel_rfl) (fun _ => by kernel_rfl) ?_
   refine T.nil ?_
   refine T.ret rfl ?_
   exact T.ret1 rfl (ResIs.tmp rfl) fun w' hh => ⟨_, rfl, Exists.intro b4 (Exists.intro b3 (And.intro rfl (hh.sub (.cons_cons _ (.cons_cons _ (.cons_cons _ (.cons_cons _ List.Sublist.slnil)))))))⟩
  ·
   rintro v w' ⟨b4, b3, rfl, hh⟩
   refine ⟨V1, [box b4 133 [.func (.func 76) #[] #[.pointer (some ⟨b3, 0, none⟩), .pointer (some ⟨b4, 0, none⟩)]], box b3 24 [.int .i64 p0.root, .slice A1 p0.nodes.length c1], box b2 34 [.slice none 0 0], box b1 24 [.int .i64 p0.root, .slice A1 p0.nodes.length c1]], hh, ?_⟩
   clear hh
   refine T.nil ?_
   refine T.block ?_
   obtain ⟨z1, hX1, hF⟩ := Option.bind_eq_some_iff.1 hF
   refine T.range (gf := 77) (lb := [.pointer (some ⟨b4, 0, none⟩), .pointer (some ⟨b3, 0, none⟩)]) .skip [] (fun l1 d1 lr1 w' => ∃ (A2 : Option Addr) (c2 : Nat) (V2 : View), View.le V1 V2 ∧ Hp w V2 [loopo l1 lr1 .skip [] 0, row 28 eElem A2 c2 z1, marko d1, box b2 34 [.slice A2 z1.length c2]] w') (by kernel_rfl) (by kernel_rfl) (fun _ _ => by kernel_rfl) ?_ ?_
   ·
    intro l1 d1 lr1 hl1 hl2 hl3 hl4 w1 hh
    refine T.startI (l := [.func (.yield l1) #[] #[], .pointer (some ⟨b4, 0, none⟩), .pointer (some ⟨b3, 0, none⟩)]) Try.func77 rfl rfl rfl ?_ hh
    clear hh
    refine T.region ?_
    refine T.look (.func (.func 76) #[] #[.pointer (some ⟨b3, 0, none⟩), .pointer (some ⟨b4, 0, none⟩)]) (by kernel_rfl) (fun w' hh => exec_load1 rfl rfl (by kernel_rfl) (hh.cellBox (i := 2) (by rfl) 0)) ?_
    refine T.pure (.pointer (some ⟨b3, 0, none⟩)) (by kernel_rfl) (fun _ => by kernel_rfl) ?_
    refine T.look (.int .i64 p0.root) (by kernel_rfl) (fun w' hh => exec_load1 rfl rfl (by kernel_rfl) (hh.cellBox (i := 3) (by rfl) 0)) ?_
    refine T.pure (.func (.yield l1) #[] #[]) (by kernel_rfl) (fun _ => by kernel_rfl) ?_
    refine T.rownil 28 eElem ?_
    obtain ⟨q1, hz1, hX1⟩ := Option.bind_eq_some_iff.1 hX1
    refine (have hq1 := fix_rec (fun (s_ : (List DElem) × Int) (r_ : (List DElem)) => ∀ (x1 : List DElem) (x2 : Int), s_ = (x1, x2) → ∀ (A3 : Option Addr) (c3 : Nat) (V3 : View) (G2 : List HObj) (w1 : World), View.le V1 V3 → Hp w V3 ((row 28 eElem A3 c3 x1) :: (loopo l1 lr1 .skip [] 0) :: (marko d1) :: (box b4 133 [.func (.func 76) #[] #[.pointer (some ⟨b3, 0, none⟩), .pointer (some ⟨b4, 0, none⟩)]]) :: (box b3 24 [.int .i64 p0.root, .slice A1 p0.nodes.length c1]) :: (box b2 34 [.slice A3 x1.length c3]) :: G2) w1 → Calls Try.prog 76 #[.int .i64 x2, .func (.yield l1) #[] #[], .pointer (some ⟨b3, 0, none⟩), .pointer (some ⟨b4, 0, none⟩)] w1 (fun e w2 => ∃ v, e = .returned v ∧ ∃ (z2 : List DElem), r_ = z2 ∧ ∃ (A4 : Option Addr) (c4 : Nat) (V4 : View), View.le V3 V4 ∧ v = .bool true ∧ Hp w V4 ((row 28 eElem A4 c4 z2) :: (loopo l1 lr1 .skip [] 0) :: (marko d1) :: (box b4 133 [.func (.func 76) #[] #[.pointer (some ⟨b3, 0, none⟩), .pointer (some ⟨b4, 0, none⟩)]]) :: (box b3 24 [.int .i64 p0.root, .slice A1 p0.nodes.length c1]) :: (box b2 34 [.slice A4 z2.length c4]) :: G2) w2)) hz1 ?_; ?_)
    ·
     rintro rf2 ih1 s_ r_ hS1 x1 x2 rfl A3 c3 V3 G2 w1 hV3 hh
     try dsimp only at hS1
     refine T.startI (l := [.int .i64 x2, .func (.yield l1) #[] #[], .pointer (some ⟨b3, 0, none⟩), .pointer (some ⟨b4, 0, none⟩)]) Try.func76 rfl rfl rfl ?_ hh
     clear hh
     refine T.seq ?_
     refine T.region ?_
     refine T.pure (.bool false) (by kernel_rfl) (fun _ => by kernel_rfl) ?_
     refine T.nil ?_
     refine T.seq ?_
     refine T.region ?_
     refine T.pure (.pointer (some ⟨b3, 1, none⟩)) (by kernel_rfl) (fun _ => by kernel_rfl) ?_
     refine T.look (.slice A1 p0.nodes.length c1) (by kernel_rfl) (fun w' hh => exec_load1 rfl rfl (by kernel_rfl) (hh.cellBox (i := 4) (by rfl) 1)) ?_
     refine T.pure (.int .i64 x2) (by kernel_rfl) (fun _ => by kernel_rfl) ?_
     obtain ⟨e1, hb2, hS1⟩ := Option.bind_eq_some_iff.1 hS1
     obtain ⟨hi1, hi2, hi3⟩ := idx_some hb2
     obtain ⟨cs1, hr1, hc2⟩ := SlOk.elem (SlOk.mono hs1 (View.le_trans hV1 hV3)) hi3
     obtain ⟨A5, c5, A6, c6, A7, c7, A8, c8, rfl, hs2, hs3, hs4, hs5⟩ := hr1
     refine T.look (.pointer (some ((sadr A1).add (x2.toNat * 5)))) (by kernel_rfl) (fun w' hh => exec_indexAddr (e := 97) (s := 5) rfl rfl rfl (by kernel_rfl) (by kernel_rfl) hi1 hi2 ((SlOk.mono hs1 (View.le_trans hV1 hV3)).some_ hi3 (by decide))) ?_
     refine T.look (.agg #[.int .i64 e1.kind, .slice A5 e1.elems.length c5, .slice A6 e1.kids.length c6, .slice A7 e1.seps.length c7, .slice A8 e1.tids.length c8]) (by kernel_rfl) (fun w' hh => exec_loadN (cs := [.int .i64 e1.kind, .slice A5 e1.elems.length c5, .slice A6 e1.kids.length c6, .slice A7 e1.seps.length c7, .slice A8 e1.tids.length c8]) rfl rfl (by kernel_rfl) (by kernel_rfl) (fun j u hj => hh.cell_view (View.cell_mono (View.le_refl _) (hc2 j u hj).2))) ?_
     refine T.step (W1.new 97 [.int .i64 0, .slice none 0 0, .slice none 0 0, .slice none 0 0, .slice none 0 0] (fun b => .pointer (some ⟨b, 0, none⟩)) (by kernel_rfl) (fun _ => by kernel_rfl) (fun b5 => ?_))
     refine T.step (W1.store 0 [.int .i64 e1.kind, .slice A5 e1.elems.length c5, .slice A6 e1.kids.length c6, .slice A7 e1.seps.length c7, .slice A8 e1.tids.length c8] ((box b5 97 [.int .i64 e1.kind, .slice A5 e1.elems.length c5, .slice A6 e1.kids.length c6, .slice A7 e1.seps.length c7, .slice A8 e1.tids.length c8]) :: (row 28 eElem A3 c3 x1) :: (loopo l1 lr1 .skip [] 0) :: (marko d1) :: (box b4 133 [.func (.func 76) #[] #[.pointer (some ⟨b3, 0, none⟩), .pointer (some ⟨b4, 0, none⟩)]]) :: (box b3 24 [.int .i64 p0.root, .slice A1 p0.nodes.length c1]) :: (box b2 34 [.slice A3 x1.length c3]) :: G2) (by rfl) rfl (by kernel_rfl) (fun w' hw => exec_store (vs := [.int .i64 e1.kind, .slice A5 e1.elems.length c5, .slice A6 e1.kids.length c6, .slice A7 e1.seps.length c7, .slice A8 e1.tids.length c8]) rfl rfl rfl rfl (by kernel_rfl) (one_of rfl) (by simp) rfl hw) ?_)
     refine T.nil ?_
     refine T.seq ?_
     refine T.seq ?_
     refine T.region ?_
     refine T.pure (.pointer (some ⟨b5, 1, none⟩)) (by kernel_rfl) (fun _ => by kernel_rfl) ?_
     refine T.look (.slice A5 e1.elems.length c5) (by kernel_rfl) (fun w' hh => exec_load1 rfl rfl (by kernel_rfl) (hh.cellBox (i := 0) (by rfl) 1)) ?_
     refine T.pure (.int .i64 (e1.elems.length : Int)) (by kernel_rfl) (fun _ => by kernel_rfl) ?_
     refine T.pure (.int .i64 0) (by kernel_rfl) (fun _ => by kernel_rfl) ?_
     refine T.nil ?_
     obtain ⟨z3, hz2, hS1⟩ := Option.bind_eq_some_iff.1 hS1
     refine T.mid (fun a w' => ∃ (A10 : Option Addr) (c10 : Nat), Fr 42 [(1, .func (.yield l1) #[] #[]), (3, .pointer (some ⟨b4, 0, none⟩)), (7, .pointer (some ⟨b5, 0, none⟩))] a ∧ Hp w V3 ((box b5 97 [.int .i64 e1.kind, .slice A5 e1.elems.length c5, .slice A6 e1.kids.length c6, .slice A7 e1.seps.length c7, .slice A8 e1.tids.length c8]) :: (row 28 eElem A10 c10 z3) :: (loopo l1 lr1 .skip [] 0) :: (marko d1) :: (box b4 133 [.func (.func 76) #[] #[.pointer (some ⟨b3, 0, none⟩), .pointer (some ⟨b4, 0, none⟩)]]) :: (box b3 24 [.int .i64 p0.root, .slice A1 p0.nodes.length c1]) :: (box b2 34 [.slice A10 z3.length c10]) :: G2) w') ?_ ?_
     ·
      refine T.block ?_
      refine T.iter (fun s1 a w' => ∃ (x3 : List DElem) (x4 : Int), s1 = (x3, x4) ∧ ∃ (A9 : Option Addr) (c9 : Nat), Fr 42 [(1, .func (.yield l1) #[] #[]), (3, .pointer (some ⟨b4, 0, none⟩)), (7, .pointer (some ⟨b5, 0, none⟩)), (18, .slice A5 e1.elems.length c5), (19, .int .i64 (e1.elems.length : Int)), (20, .int .i64 x4)] a ∧ Hp w V3 ((box b5 97 [.int .i64 e1.kind, .slice A5 e1.elems.length c5, .slice A6 e1.kids.length c6, .slice A7 e1.seps.length c7, .slice A8 e1.tids.length c8]) :: (row 28 eElem A9 c9 x3) :: (loopo l1 lr1 .skip [] 0) :: (marko d1) :: (box b4 133 [.func (.func 76) #[] #[.pointer (some ⟨b3, 0, none⟩), .pointer (some ⟨b4, 0, none⟩)]]) :: (box b3 24 [.int .i64 p0.root, .slice A1 p0.nodes.length c1]) :: (box b2 34 [.slice A9 x3.length c9]) :: G2) w') hz2 ?_ ?_
      ·
       exact fun a w' hf hh => Exists.intro x1 (Exists.intro 0 (And.intro rfl (Exists.intro A3 (Exists.intro c3 (And.intro (((((((Fr.nil hf).pick hf 20 rfl).pick hf 19 rfl).pick hf 18 rfl).pick hf 7 rfl).pick hf 3 rfl).pick hf 1 rfl) (hh.sub (.cons_cons _ (.cons_cons _ (.cons_cons _ (.cons_cons _ (.cons_cons _ (.cons_cons _ (.cons_cons _ (List.Sublist.refl _))))))))))))))
      ·
       rintro s1 y1 hY1 hr2 a w' ⟨x3, x4, rfl, A9, c9, hf, hh⟩
       refine (?_ : T 42 w V3 ((box b5 97 [.int .i64 e1.kind, .slice A5 e1.elems.length c5, .slice A6 e1.kids.length c6, .slice A7 e1.seps.length c7, .slice A8 e1.tids.length c8]) :: (row 28 eElem A9 c9 x3) :: (loopo l1 lr1 .skip [] 0) :: (marko d1) :: (box b4 133 [.func (.func 76) #[] #[.pointer (some ⟨b3, 0, none⟩), .pointer (some ⟨b4, 0, none⟩)]]) :: (box b3 24 [.int .i64 p0.root, .slice A1 p0.nodes.length c1]) :: (box b2 34 [.slice A9 x3.length c9]) :: G2) [(1, .func (.yield l1) #[] #[]), (3, .pointer (some ⟨b4, 0, none⟩)), (7, .pointer (some ⟨b5, 0, none⟩)), (18, .slice A5 e1.elems.length c5), (19, .int .i64 (e1.elems.length : Int)), (20, .int .i64 x4)] _) a w' hf hh
       clear hf hh
       try dsimp only at hY1
       refine T.seq ?_
       refine T.region ?_
       refine T.pure (.bool (decide (x4 < (e1.elems.length : Int)))) (by kernel_rfl) (fun _ => by kernel_rfl) ?_
       refine T.nil ?_
       refine T.seq ?_
       refine T.cond (decide (x4 < (e1.elems.length : Int))) (by kernel_rfl) (by kernel_rfl) (fun hc3 => ?_) (fun hc3 => ?_)
       ·
        rw [hc3, cond_true] at hY1
        refine T.skip_code ?_
        refine T.seq ?_
        refine T.block ?_
        refine T.seq ?_
        refine T.region ?_
        obtain ⟨e2, hb3, hY1⟩ := Option.bind_eq_some_iff.1 hY1
        obtain ⟨hi4, hi5, hi6⟩ := idx_some hb3
        refine T.look (.pointer (some ((sadr A5).add (x4.toNat * 6)))) (by kernel_rfl) (fun w' hh => exec_indexAddr (e := 28) (s := 6) rfl rfl rfl (by kernel_rfl) (by kernel_rfl) hi4 hi5 (hs2.some_ hi6 (by decide))) ?_
        refine T.look (.agg #[.int .i64 e2.key.pfs, .int .i64 e2.key.obj, .int .i64 e2.key.off, .int .i64 e2.made, .int .i64 e2.gone, .string e2.val]) (by kernel_rfl) (fun w' hh => exec_loadN (cs := [.int .i64 e2.key.pfs, .int .i64 e2.key.obj, .int .i64 e2.key.off, .int .i64 e2.made, .int .i64 e2.gone, .string e2.val]) rfl rfl (by kernel_rfl) (by kernel_rfl) (fun j u hj => (hh.cell_view (SlOk.cellF (E := eElem) hs2 hi6 j (fun _ _ _ h => h) hj)))) ?_
        refine T.step (W1.new 28 [.int .i64 0, .int .i64 0, .int .i64 0, .int .i64 0, .int .i64 0, .string (ByteArray.mk #[])] (fun b => .pointer (some ⟨b, 0, none⟩)) (by kernel_rfl) (fun _ => by kernel_rfl) (fun b6 => ?_))
        refine T.step (W1.store 0 [.int .i64 e2.key.pfs, .int .i64 e2.key.obj, .int .i64 e2.key.off, .int .i64 e2.made, .int .i64 e2.gone, .string e2.val] ((box b6 28 [.int .i64 e2.key.pfs, .int .i64 e2.key.obj, .int .i64 e2.key.off, .int .i64 e2.made, .int .i64 e2.gone, .string e2.val]) :: (box b5 97 [.int .i64 e1.kind, .slice A5 e1.elems.length c5, .slice A6 e1.kids.length c6, .slice A7 e1.seps.length c7, .slice A8 e1.tids.length c8]) :: (row 28 eElem A9 c9 x3) :: (loopo l1 lr1 .skip [] 0) :: (marko d1) :: (box b4 133 [.func (.func 76) #[] #[.pointer (some ⟨b3, 0, none⟩), .pointer (some ⟨b4, 0, none⟩)]]) :: (box b3 24 [.int .i64 p0.root, .slice A1 p0.nodes.length c1]) :: (box b2 34 [.slice A9 x3.length c9]) :: G2) (by rfl) rfl (by kernel_rfl) (fun w' hw => exec_store (vs := [.int .i64 e2.key.pfs, .int .i64 e2.key.obj, .int .i64 e2.key.off, .int .i64 e2.made, .int .i64 e2.gone, .string e2.val]) rfl rfl rfl rfl (by kernel_rfl) (one_of rfl) (by simp) rfl hw) ?_)
        refine T.nil ?_
        refine T.seq ?_
        refine T.region ?_
        refine T.pure (.func (.yield l1) #[] #[]) (by kernel_rfl) (fun _ => by kernel_rfl) ?_
        refine T.look (.agg #[.int .i64 e2.key.pfs, .int .i64 e2.key.obj, .int .i64 e2.key.off, .int .i64 e2.made, .int .i64 e2.gone, .string e2.val]) (by kernel_rfl) (fun w' hh => exec_loadN (cs := [.int .i64 e2.key.pfs, .int .i64 e2.key.obj, .int .i64 e2.key.off, .int .i64 e2.made, .int .i64 e2.gone, .string e2.val]) rfl rfl (by kernel_rfl) (by kernel_rfl) (fun j u hj => (hh.box_at (i := 0) (cs := [.int .i64 e2.key.pfs, .int .i64 e2.key.obj, .int .i64 e2.key.off, .int .i64 e2.made, .int .i64 e2.gone, .string e2.val]) (by rfl) 0 j).trans (seg_at (n := 6) (by rfl) hj))) ?_
        obtain ⟨q2, hX2, hY1⟩ := Option.bind_eq_some_iff.1 hY1
        refine T.stepR (W1R.yield 3 l1 (fun v w' => q2 = () ∧ ∃ (A11 : Option Addr) (c11 : Nat), v = .bool true ∧ Hp w V3 ((box b6 28 [.int .i64 e2.key.pfs, .int .i64 e2.key.obj, .int .i64 e2.key.off, .int .i64 e2.made, .int .i64 e2.gone, .string e2.val]) :: (box b5 97 [.int .i64 e1.kind, .slice A5 e1.elems.length c5, .slice A6 e1.kids.length c6, .slice A7 e1.seps.length c7, .slice A8 e1.tids.length c8]) :: (row 28 eElem A11 c11 (x3 ++ [e2])) :: (loopo l1 lr1 .skip [] 0) :: (marko d1) :: (box b4 133 [.func (.func 76) #[] #[.pointer (some ⟨b3, 0, none⟩), .pointer (some ⟨b4, 0, none⟩)]]) :: (box b3 24 [.int .i64 p0.root, .slice A1 p0.nodes.length c1]) :: (box b2 34 [.slice A11 ((x3 ++ [e2]).length) c11]) :: G2) w') (by rfl) hl1 hl2 hl3 hl4 (by rfl) (by kernel_rfl) rfl (by kernel_rfl) rfl ?_ ?_)
        ·
         refine T.region ?_
         refine T.step (W1.new 28 [.int .i64 0, .int .i64 0, .int .i64 0, .int .i64 0, .int .i64 0, .string (ByteArray.mk #[])] (fun b => .pointer (some ⟨b, 0, none⟩)) (by kernel_rfl) (fun _ => by kernel_rfl) (fun b7 => ?_))
         refine T.step (W1.store 0 [.int .i64 e2.key.pfs, .int .i64 e2.key.obj, .int .i64 e2.key.off, .int .i64 e2.made, .int .i64 e2.gone, .string e2.val] ((box b7 28 [.int .i64 e2.key.pfs, .int .i64 e2.key.obj, .int .i64 e2.key.off, .int .i64 e2.made, .int .i64 e2.gone, .string e2.val]) :: (box b6 28 [.int .i64 e2.key.pfs, .int .i64 e2.key.obj, .int .i64 e2.key.off, .int .i64 e2.made, .int .i64 e2.gone, .string e2.val]) :: (box b5 97 [.int .i64 e1.kind, .slice A5 e1.elems.length c5, .slice A6 e1.kids.length c6, .slice A7 e1.seps.length c7, .slice A8 e1.tids.length c8]) :: (row 28 eElem A9 c9 x3) :: (loopo l1 lr1 .skip [] 0) :: (marko d1) :: (box b4 133 [.func (.func 76) #[] #[.pointer (some ⟨b3, 0, none⟩), .pointer (some ⟨b4, 0, none⟩)]]) :: (box b3 24 [.int .i64 p0.root, .slice A1 p0.nodes.length c1]) :: (box b2 34 [.slice A9 x3.length c9]) :: G2) (by rfl) rfl (by kernel_rfl) (fun w' hw => exec_store (vs := [.int .i64 e2.key.pfs, .int .i64 e2.key.obj, .int .i64 e2.key.off, .int .i64 e2.made, .int .i64 e2.gone, .string e2.val]) rfl rfl rfl rfl (by kernel_rfl) (one_of rfl) (by simp) rfl hw) ?_)
         refine T.nil ?_
         refine T.unthenN ?_
         refine T.begin 4 ((box b7 28 [.int .i64 e2.key.pfs, .int .i64 e2.key.obj, .int .i64 e2.key.off, .int .i64 e2.made, .int .i64 e2.gone, .string e2.val]) :: (box b6 28 [.int .i64 e2.key.pfs, .int .i64 e2.key.obj, .int .i64 e2.key.off, .int .i64 e2.made, .int .i64 e2.gone, .string e2.val]) :: (box b5 97 [.int .i64 e1.kind, .slice A5 e1.elems.length c5, .slice A6 e1.kids.length c6, .slice A7 e1.seps.length c7, .slice A8 e1.tids.length c8]) :: (row 28 eElem A9 c9 x3) :: (busyo l1 lr1) :: (marko d1) :: (box b4 133 [.func (.func 76) #[] #[.pointer (some ⟨b3, 0, none⟩), .pointer (some ⟨b4, 0, none⟩)]]) :: (box b3 24 [.int .i64 p0.root, .slice A1 p0.nodes.length c1]) :: (box b2 34 [.slice A9 x3.length c9]) :: G2) (by rfl) rfl ?_
         refine T.block ?_
         refine T.region ?_
         refine T.look (.slice A9 x3.length c9) (by kernel_rfl) (fun w' hh => exec_load1 rfl rfl (by kernel_rfl) (hh.cellBox (i := 8) (by rfl) 0)) ?_
         refine T.look (.agg #[.int .i64 e2.key.pfs, .int .i64 e2.key.obj, .int .i64 e2.key.off, .int .i64 e2.made, .int .i64 e2.gone, .string e2.val]) (by kernel_rfl) (fun w' hh => exec_loadN (cs := [.int .i64 e2.key.pfs, .int .i64 e2.key.obj, .int .i64 e2.key.off, .int .i64 e2.made, .int .i64 e2.gone, .string e2.val]) rfl rfl (by kernel_rfl) (by kernel_rfl) (fun j u hj => (hh.box_at (i := 0) (cs := [.int .i64 e2.key.pfs, .int .i64 e2.key.obj, .int .i64 e2.key.off, .int .i64 e2.made, .int .i64 e2.gone, .string e2.val]) (by rfl) 0 j).trans (seg_at (n := 6) (by rfl) hj))) ?_
         refine T.step (W1.new 28 [.int .i64 e2.key.pfs, .int .i64 e2.key.obj, .int .i64 e2.key.off, .int .i64 e2.made, .int .i64 e2.gone, .string e2.val] (fun b => .slice (some ⟨b, 0, none⟩) 1 1) (by kernel_rfl) (fun _ => by kernel_rfl) (fun b8 => ?_))
         obtain ⟨y2, hb4, hX2⟩ := Option.bind_eq_some_iff.1 hX2
         obtain ⟨hb4_r, hb4_m, rfl⟩ := grow_some hb4
         obtain ⟨ti, hti, hz1, hz2, hz3⟩ := info_parts (P := Try.prog) (e := 28) (z := .agg #[.int .i64 0, .int .i64 0, .int .i64 0, .int .i64 0, .int .i64 0, .string (ByteArray.mk #[])]) (size := 6) (bytes := 56) (by kernel_rfl)
         refine T.step (W1.append (E := eElem) (l := x3) (m := [e2]) 4 _ _ 56 ti _ (by rfl) (by kernel_rfl) rfl (by kernel_rfl) hti hz1 hz2 hz3 rfl (by decide) rfl rfl (fun w' hh => (SlOk.srcF (slok_lit (E := eElem) (f := DElem.cells) [e2] (fun _ _ => rfl) (Nat.le_of_ble_eq_true (by rfl)) (fun j => hh.cellBox (i := 0) (by rfl) j)) (fun _ _ _ _ h => h))) hb4_r hb4_m (fun A12 c12 => ?_))
         refine T.step (W1.store 9 [.slice A12 ((x3 ++ [e2]).length) c12] ((box b8 28 [.int .i64 e2.key.pfs, .int .i64 e2.key.obj, .int .i64 e2.key.off, .int .i64 e2.made, .int .i64 e2.gone, .string e2.val]) :: (box b7 28 [.int .i64 e2.key.pfs, .int .i64 e2.key.obj, .int .i64 e2.key.off, .int .i64 e2.made, .int .i64 e2.gone, .string e2.val]) :: (box b6 28 [.int .i64 e2.key.pfs, .int .i64 e2.key.obj, .int .i64 e2.key.off, .int .i64 e2.made, .int .i64 e2.gone, .string e2.val]) :: (box b5 97 [.int .i64 e1.kind, .slice A5 e1.elems.length c5, .slice A6 e1.kids.length c6, .slice A7 e1.seps.length c7, .slice A8 e1.tids.length c8]) :: (row 28 eElem A12 c12 (x3 ++ [e2])) :: (busyo l1 lr1) :: (marko d1) :: (box b4 133 [.func (.func 76) #[] #[.pointer (some ⟨b3, 0, none⟩), .pointer (some ⟨b4, 0, none⟩)]]) :: (box b3 24 [.int .i64 p0.root, .slice A1 p0.nodes.length c1]) :: (box b2 34 [.slice A12 ((x3 ++ [e2]).length) c12]) :: G2) (by rfl) rfl (by kernel_rfl) (fun w' hw => exec_store (vs := [.slice A12 ((x3 ++ [e2]).length) c12]) rfl rfl rfl rfl (by kernel_rfl) (one_of rfl) (by simp) rfl hw) ?_)
         refine T.nil ?_
         cases hX2
         repeat first | refine T.unthenN ?_ | refine T.unblockN ?_
         exact T.roundEnd .skip [] 5 ((box b8 28 [.int .i64 e2.key.pfs, .int .i64 e2.key.obj, .int .i64 e2.key.off, .int .i64 e2.made, .int .i64 e2.gone, .string e2.val]) :: (box b7 28 [.int .i64 e2.key.pfs, .int .i64 e2.key.obj, .int .i64 e2.key.off, .int .i64 e2.made, .int .i64 e2.gone, .string e2.val]) :: (box b6 28 [.int .i64 e2.key.pfs, .int .i64 e2.key.obj, .int .i64 e2.key.off, .int .i64 e2.made, .int .i64 e2.gone, .string e2.val]) :: (box b5 97 [.int .i64 e1.kind, .slice A5 e1.elems.length c5, .slice A6 e1.kids.length c6, .slice A7 e1.seps.length c7, .slice A8 e1.tids.length c8]) :: (row 28 eElem A12 c12 (x3 ++ [e2])) :: (loopo l1 lr1 .skip [] 0) :: (marko d1) :: (box b4 133 [.func (.func 76) #[] #[.pointer (some ⟨b3, 0, none⟩), .pointer (some ⟨b4, 0, none⟩)]]) :: (box b3 24 [.int .i64 p0.root, .slice A1 p0.nodes.length c1]) :: (box b2 34 [.slice A12 ((x3 ++ [e2]).length) c12]) :: G2) (by rfl) rfl (fun w' hh => ⟨_, rfl, And.intro rfl (Exists.intro A12 (Exists.intro c12 (And.intro rfl (hh.sub (.cons _ (.cons _ (.cons_cons _ (.cons_cons _ (.cons_cons _ (.cons_cons _ (.cons_cons _ (.cons_cons _ (.cons_cons _ (.cons_cons _ (List.Sublist.refl _)))))))))))))))⟩)
        ·
         rintro v w' ⟨rfl, A11, c11, rfl, hh⟩
         try dsimp only at hY1
         refine ⟨V3, ((box b6 28 [.int .i64 e2.key.pfs, .int .i64 e2.key.obj, .int .i64 e2.key.off, .int .i64 e2.made, .int .i64 e2.gone, .string e2.val]) :: (box b5 97 [.int .i64 e1.kind, .slice A5 e1.elems.length c5, .slice A6 e1.kids.length c6, .slice A7 e1.seps.length c7, .slice A8 e1.tids.length c8]) :: (row 28 eElem A11 c11 (x3 ++ [e2])) :: (loopo l1 lr1 .skip [] 0) :: (marko d1) :: (box b4 133 [.func (.func 76) #[] #[.pointer (some ⟨b3, 0, none⟩), .pointer (some ⟨b4, 0, none⟩)]]) :: (box b3 24 [.int .i64 p0.root, .slice A1 p0.nodes.length c1]) :: (box b2 34 [.slice A11 ((x3 ++ [e2]).length) c11]) :: G2), hh, ?_⟩
         clear hh
         refine T.pure (.bool false) (by kernel_rfl) (fun _ => by kernel_rfl) ?_
         refine T.nil ?_
         refine T.cond false (by kernel_rfl) (by kernel_rfl) (fun h => Bool.noConfusion h) (fun _ => ?_)
         refine T.skip_code ?_
         refine T.region ?_
         refine T.pure (.int .i64 (IntKind.i64.wrap (x4 + 1))) (by kernel_rfl) (fun _ => by kernel_rfl) ?_
         refine T.pure (.int .i64 (IntKind.i64.wrap (x4 + 1))) (by kernel_rfl) (fun _ => by kernel_rfl) ?_
         refine T.nil ?_
         cases hY1
         exact fun a w' hf hh => Exists.intro ((x3 ++ [e2]), IntKind.i64.wrap (x4 + 1)) (And.intro rfl (Exists.intro (x3 ++ [e2]) (Exists.intro (IntKind.i64.wrap (x4 + 1)) (And.intro rfl (Exists.intro A11 (Exists.intro c11 (And.intro (((((((Fr.nil hf).pick hf 20 rfl).pick hf 19 rfl).pick hf 18 rfl).pick hf 7 rfl).pick hf 3 rfl).pick hf 1 rfl) (hh.sub (.cons _ (.cons_cons _ (.cons_cons _ (.cons_cons _ (.cons_cons _ (.cons_cons _ (.cons_cons _ (.cons_cons _ (List.Sublist.refl _)))))))))))))))))
       ·
        rw [hc3, cond_false] at hY1
        refine T.exit ?_
        cases hY1
        cases (hr2 _ rfl)
        exact fun a w' hf hh => Exists.intro A9 (Exists.intro c9 (And.intro ((((Fr.nil hf).pick hf 7 rfl).pick hf 3 rfl).pick hf 1 rfl) (hh.sub (.cons_cons _ (.cons_cons _ (.cons_cons _ (.cons_cons _ (.cons_cons _ (.cons_cons _ (.cons_cons _ (List.Sublist.refl _)))))))))))
     ·
      rintro a w' ⟨A10, c10, hf, hh⟩
      refine (?_ : T 42 w V3 ((box b5 97 [.int .i64 e1.kind, .slice A5 e1.elems.length c5, .slice A6 e1.kids.length c6, .slice A7 e1.seps.length c7, .slice A8 e1.tids.length c8]) :: (row 28 eElem A10 c10 z3) :: (loopo l1 lr1 .skip [] 0) :: (marko d1) :: (box b4 133 [.func (.func 76) #[] #[.pointer (some ⟨b3, 0, none⟩), .pointer (some ⟨b4, 0, none⟩)]]) :: (box b3 24 [.int .i64 p0.root, .slice A1 p0.nodes.length c1]) :: (box b2 34 [.slice A10 z3.length c10]) :: G2) [(1, .func (.yield l1) #[] #[]), (3, .pointer (some ⟨b4, 0, none⟩)), (7, .pointer (some ⟨b5, 0, none⟩))] _) a w' hf hh
      clear hf hh
      refine T.seq ?_
      refine T.seq ?_
      refine T.region ?_
      refine T.pure (.pointer (some ⟨b5, 2, none⟩)) (by kernel_rfl) (fun _ => by kernel_rfl) ?_
      refine T.look (.slice A6 e1.kids.length c6) (by kernel_rfl) (fun w' hh => exec_load1 rfl rfl (by kernel_rfl) (hh.cellBox (i := 0) (by rfl) 2)) ?_
      refine T.pure (.int .i64 (e1.kids.length : Int)) (by kernel_rfl) (fun _ => by kernel_rfl) ?_
      refine T.pure (.int .i64 0) (by kernel_rfl) (fun _ => by kernel_rfl) ?_
      refine T.nil ?_
      obtain ⟨z4, hz3, hS1⟩ := Option.bind_eq_some_iff.1 hS1
      refine T.mid (fun a w' => ∃ (A14 : Option Addr) (c14 : Nat) (V6 : View), View.le V3 V6 ∧ Fr 42 [] a ∧ Hp w V6 ((row 28 eElem A14 c14 z4) :: (loopo l1 lr1 .skip [] 0) :: (marko d1) :: (box b4 133 [.func (.func 76) #[] #[.pointer (some ⟨b3, 0, none⟩), .pointer (some ⟨b4, 0, none⟩)]]) :: (box b3 24 [.int .i64 p0.root, .slice A1 p0.nodes.length c1]) :: (box b2 34 [.slice A14 z4.length c14]) :: G2) w') ?_ ?_
      ·
       refine T.block ?_
       refine T.iter (fun s2 a w' => ∃ (x5 : List DElem) (x6 : Int), s2 = (x5, x6) ∧ ∃ (A13 : Option Addr) (c13 : Nat) (V5 : View), View.le V3 V5 ∧ Fr 42 [(1, .func (.yield l1) #[] #[]), (3, .pointer (some ⟨b4, 0, none⟩)), (30, .slice A6 e1.kids.length c6), (31, .int .i64 (e1.kids.length : Int)), (32, .int .i64 x6)] a ∧ Hp w V5 ((row 28 eElem A13 c13 x5) :: (loopo l1 lr1 .skip [] 0) :: (marko d1) :: (box b4 133 [.func (.func 76) #[] #[.pointer (some ⟨b3, 0, none⟩), .pointer (some ⟨b4, 0, none⟩)]]) :: (box b3 24 [.int .i64 p0.root, .slice A1 p0.nodes.length c1]) :: (box b2 34 [.slice A13 x5.length c13]) :: G2) w') hz3 ?_ ?_
       ·
        exact fun a w' hf hh => Exists.intro z3 (Exists.intro 0 (And.intro rfl (Exists.intro A10 (Exists.intro c10 (Exists.intro V3 (And.intro (View.le_refl _) (And.intro ((((((Fr.nil hf).pick hf 32 rfl).pick hf 31 rfl).pick hf 30 rfl).pick hf 3 rfl).pick hf 1 rfl) (hh.sub (.cons _ (.cons_cons _ (.cons_cons _ (.cons_cons _ (.cons_cons _ (.cons_cons _ (.cons_cons _ (List.Sublist.refl _))))))))))))))))
       ·
        rintro s2 y3 hY2 hr3 a w' ⟨x5, x6, rfl, A13, c13, V5, hV5, hf, hh⟩
        refine (?_ : T 42 w V5 ((row 28 eElem A13 c13 x5) :: (loopo l1 lr1 .skip [] 0) :: (marko d1) :: (box b4 133 [.func (.func 76) #[] #[.pointer (some ⟨b3, 0, none⟩), .pointer (some ⟨b4, 0, none⟩)]]) :: (box b3 24 [.int .i64 p0.root, .slice A1 p0.nodes.length c1]) :: (box b2 34 [.slice A13 x5.length c13]) :: G2) [(1, .func (.yield l1) #[] #[]), (3, .pointer (some ⟨b4, 0, none⟩)), (30, .slice A6 e1.kids.length c6), (31, .int .i64 (e1.kids.length : Int)), (32, .int .i64 x6)] _) a w' hf hh
        clear hf hh
        try dsimp only at hY2
        refine T.seq ?_
        refine T.region ?_
        refine T.pure (.bool (decide (x6 < (e1.kids.length : Int)))) (by kernel_rfl) (fun _ => by kernel_rfl) ?_
        refine T.nil ?_
        refine T.seq ?_
        refine T.cond (decide (x6 < (e1.kids.length : Int))) (by kernel_rfl) (by kernel_rfl) (fun hc4 => ?_) (fun hc4 => ?_)
        ·
         rw [hc4, cond_true] at hY2
         refine T.skip_code ?_
         refine T.seq ?_
         refine T.block ?_
         refine T.seq ?_
         refine T.region ?_
         obtain ⟨e3, hb5, hY2⟩ := Option.bind_eq_some_iff.1 hY2
         obtain ⟨hi7, hi8, hi9⟩ := idx_some hb5
         refine T.look (.pointer (some ((sadr A6).add (x6.toNat * 1)))) (by kernel_rfl) (fun w' hh => exec_indexAddr (e := 3) (s := 1) rfl rfl rfl (by kernel_rfl) (by kernel_rfl) hi7 hi8 ((SlOk.mono hs3 hV5).some_ hi9 (by decide))) ?_
         refine T.look (.int .i64 e3) (by kernel_rfl) (fun w' hh => exec_load1 rfl rfl (by kernel_rfl) (hh.cell_view (SlOk.cellF0 (E := eInt) (SlOk.mono hs3 hV5) hi9 (fun _ _ _ h => h) rfl))) ?_
         refine T.pure (.int .i64 e3) (by kernel_rfl) (fun _ => by kernel_rfl) ?_
         refine T.nil ?_
         refine T.seq ?_
         refine T.region ?_
         refine T.look (.func (.func 76) #[] #[.pointer (some ⟨b3, 0, none⟩), .pointer (some ⟨b4, 0, none⟩)]) (by kernel_rfl) (fun w' hh => exec_load1 rfl rfl (by kernel_rfl) (hh.cellBox (i := 3) (by rfl) 0)) ?_
         refine T.pure (.int .i64 e3) (by kernel_rfl) (fun _ => by kernel_rfl) ?_
         refine T.pure (.func (.yield l1) #[] #[]) (by kernel_rfl) (fun _ => by kernel_rfl) ?_
         obtain ⟨z5, hz4, hY2⟩ := Option.bind_eq_some_iff.1 hY2
         refine T.step (W1.callI 76 [.int .i64 e3, .func (.yield l1) #[] #[], .pointer (some ⟨b3, 0, none⟩), .pointer (some ⟨b4, 0, none⟩)] (fun v w' => ∃ (z5x : List DElem), z5 = z5x ∧ ∃ (A15 : Option Addr) (c15 : Nat) (V7 : View), View.le V5 V7 ∧ v = .bool true ∧ Hp w V7 ((row 28 eElem A15 c15 z5x) :: (loopo l1 lr1 .skip [] 0) :: (marko d1) :: (box b4 133 [.func (.func 76) #[] #[.pointer (some ⟨b3, 0, none⟩), .pointer (some ⟨b4, 0, none⟩)]]) :: (box b3 24 [.int .i64 p0.root, .slice A1 p0.nodes.length c1]) :: (box b2 34 [.slice A15 z5x.length c15]) :: G2) w') (by kernel_rfl) (fun _ => by kernel_rfl) (fun w' hh => ih1 _ _ hz4 x5 e3 rfl A13 c13 V5 G2 w' (View.le_trans hV3 hV5) (hh.sub (.cons_cons _ (.cons_cons _ (.cons_cons _ (.cons_cons _ (.cons_cons _ (.cons_cons _ (List.Sublist.refl _))))))))) ?_)
         rintro v w' ⟨z5x, rfl, A15, c15, V7, hV7, rfl, hh⟩
         try dsimp only at hY2
         refine ⟨_, _, hh, ?_⟩
         clear hh
         refine T.pure (.bool false) (by kernel_rfl) (fun _ => by kernel_rfl) ?_
         refine T.nil ?_
         refine T.cond false (by kernel_rfl) (by kernel_rfl) (fun h => Bool.noConfusion h) (fun _ => ?_)
         refine T.skip_code ?_
         refine T.region ?_
         refine T.pure (.int .i64 (IntKind.i64.wrap (x6 + 1))) (by kernel_rfl) (fun _ => by kernel_rfl) ?_
         refine T.pure (.int .i64 (IntKind.i64.wrap (x6 + 1))) (by kernel_rfl) (fun _ => by kernel_rfl) ?_
         refine T.nil ?_
         cases hY2
         exact fun a w' hf hh => Exists.intro (z5, IntKind.i64.wrap (x6 + 1)) (And.intro rfl (Exists.intro z5 (Exists.intro (IntKind.i64.wrap (x6 + 1)) (And.intro rfl (Exists.intro A15 (Exists.intro c15 (Exists.intro V7 (And.intro (View.le_trans hV5 hV7) (And.intro ((((((Fr.nil hf).pick hf 32 rfl).pick hf 31 rfl).pick hf 30 rfl).pick hf 3 rfl).pick hf 1 rfl) (hh.sub (.cons_cons _ (.cons_cons _ (.cons_cons _ (.cons_cons _ (.cons_cons _ (.cons_cons _ (List.Sublist.refl _)))))))))))))))))
        ·
         rw [hc4, cond_false] at hY2
         refine T.exit ?_
         cases hY2
         cases (hr3 _ rfl)
         exact fun a w' hf hh => Exists.intro A13 (Exists.intro c13 (Exists.intro V5 (And.intro hV5 (And.intro (Fr.nil hf) (hh.sub (.cons_cons _ (.cons_cons _ (.cons_cons _ (.cons_cons _ (.cons_cons _ (.cons_cons _ (List.Sublist.refl _))))))))))))
      ·
       rintro a w' ⟨A14, c14, V6, hV6, hf, hh⟩
       refine (?_ : T 42 w V6 ((row 28 eElem A14 c14 z4) :: (loopo l1 lr1 .skip [] 0) :: (marko d1) :: (box b4 133 [.func (.func 76) #[] #[.pointer (some ⟨b3, 0, none⟩), .pointer (some ⟨b4, 0, none⟩)]]) :: (box b3 24 [.int .i64 p0.root, .slice A1 p0.nodes.length c1]) :: (box b2 34 [.slice A14 z4.length c14]) :: G2) [] _) a w' hf hh
       clear hf hh
       refine T.seq ?_
       refine T.region ?_
       refine T.pure (.bool true) (by kernel_rfl) (fun _ => by kernel_rfl) ?_
       refine T.nil ?_
       have hres := Option.some.inj hS1
       subst hres
       refine T.ret rfl ?_
       repeat first | refine T.unthen ?_ | refine T.unblock ?_
       exact T.ret1 rfl (ResIs.tmp rfl) fun w' hh => ⟨_, rfl, Exists.intro z4 (And.intro rfl (Exists.intro A14 (Exists.intro c14 (Exists.intro V6 (And.intro hV6 (And.intro rfl (hh.sub (.cons_cons _ (.cons_cons _ (.cons_cons _ (.cons_cons _ (.cons_cons _ (.cons_cons _ (List.Sublist.refl _))))))))))))))⟩
    refine T.step (W1.callI 76 [.int .i64 p0.root, .func (.yield l1) #[] #[], .pointer (some ⟨b3, 0, none⟩), .pointer (some ⟨b4, 0, none⟩)] (fun v w' => ∃ (q1x : List DElem), q1 = q1x ∧ ∃ (A16 : Option Addr) (c16 : Nat) (V8 : View), View.le V1 V8 ∧ v = .bool true ∧ Hp w V8 [row 28 eElem A16 c16 q1x, loopo l1 lr1 .skip [] 0, marko d1, box b4 133 [.func (.func 76) #[] #[.pointer (some ⟨b3, 0, none⟩), .pointer (some ⟨b4, 0, none⟩)]], box b3 24 [.int .i64 p0.root, .slice A1 p0.nodes.length c1], box b2 34 [.slice A16 q1x.length c16], box b1 24 [.int .i64 p0.root, .slice A1 p0.nodes.length c1]] w') (by kernel_rfl) (fun _ => by kernel_rfl) (fun w' hh => hq1 [] p0.root rfl none 0 V1 [box b1 24 [.int .i64 p0.root, .slice A1 p0.nodes.length c1]] w' (View.le_refl _) (hh.sub (.cons_cons _ (.cons_cons _ (.cons_cons _ (.cons_cons _ (.cons_cons _ (.cons_cons _ (.cons_cons _ List.Sublist.slnil))))))))) ?_)
    rintro v w' ⟨q1x, rfl, A16, c16, V8, hV8, rfl, hh⟩
    try dsimp only at hX1
    refine ⟨_, _, hh, ?_⟩
    clear hh
    refine T.nil ?_
    cases hX1
    repeat first | refine T.unthenN ?_ | refine T.unblockN ?_
    exact T.end0 rfl (fun w' hh => ⟨_, rfl, Exists.intro A16 (Exists.intro c16 (Exists.intro V8 (And.intro hV8 ((hh.sub (.cons_cons _ (.cons_cons _ (.cons_cons _ (.cons _ (.cons _ (.cons_cons _ (.cons _ List.Sublist.slnil)))))))).perm (List.Perm.trans (List.Perm.swap _ _ _) (List.Perm.refl _))))))⟩)
   ·
    rintro l1 d1 lr1 w' ⟨A2, c2, V2, hV2, hh⟩
    refine ⟨V2, [row 28 eElem A2 c2 z1, marko d1, box b2 34 [.slice A2 z1.length c2]], 0, hh, ?_⟩
    clear hh
    rw [natCase_zero]
    refine T.seq ?_
    refine T.region ?_
    refine T.look (.slice A2 z1.length c2) (by kernel_rfl) (fun w' hh => exec_load1 rfl rfl (by kernel_rfl) (hh.cellBox (i := 2) (by rfl) 0)) ?_
    refine T.pure (.slice A2 z1.length c2) (by kernel_rfl) (fun _ => by kernel_rfl) ?_
    refine T.pure (.int .i64 0) (by kernel_rfl) (fun _ => by kernel_rfl) ?_
    refine T.nil ?_
    cases hF
    refine T.ret rfl ?_
    refine T.leaveM [row 28 eElem A2 c2 z1, box b2 34 [.slice A2 z1.length c2]] [d1] (fun w' hh => (hh.sub (.cons_cons _ (.cons_cons _ (.cons_cons _ List.Sublist.slnil)))).perm (List.Perm.trans (List.Perm.swap _ _ _) (List.Perm.refl _))) ?_
    exact T.ret2 rfl (ResIs.tmp rfl) (ResIs.tmp rfl) fun w' hh => ⟨_, rfl, hh.below, (vT2.mk ⟨_, _, rfl, (hh.row_fresh (i := 0) (by rfl) (fun _ h => h))⟩ (show _ from rfl))⟩

end Go.Proofs.Ytcmkdoahkncakaa
