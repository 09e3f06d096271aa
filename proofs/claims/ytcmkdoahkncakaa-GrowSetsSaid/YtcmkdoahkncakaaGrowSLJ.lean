/- The Go functions of group GrowS compute the pure functions of that group: written by walkgen.py. Condition of each: the pure function yields a result. -/
import Derived.Test.YtcmkdoahkncakaaLookLJ
import Derived.Test.YtcmkdoahkncakaaCpLJ
import Derived.Test.YtcmkdoahkncakaaAnyLJ
import Derived.Test.YtcmkdoahkncakaaTreeOJ
import Derived.Test.YtcmkdoahkncakaaClearJ
import Derived.Test.YtcmkdoahkncakaaGrowSFJ
import Derived.Test.YtcmkdoahkncakaaEqLJ
namespace Go.Proofs.Ytcmkdoahkncakaa
set_option linter.unusedVariables false

set_option maxRecDepth 100000 in
set_option maxHeartbeats 4000000 in
theorem grow_Set_l (F : Nat) (p0 : DTree) (p1 : DElem) (r : DTree × Int) (hF : grow_Set F p0 p1 = some r) (w : World) (A1 : Option Addr) (c1 : Nat) (hs1 : SlOk (vw w) eNode A1 c1 p0.nodes) :
    Calls Try.prog 14 #[.agg #[.int .i64 p0.root, .slice A1 p0.nodes.length c1], .agg #[.int .i64 p1.key.pfs, .int .i64 p1.key.obj, .int .i64 p1.key.off, .int .i64 p1.made, .int .i64 p1.gone, .string p1.val]] w (Post (vT2 (vAg eTree) (vSc eInt)) r w) := by
 unfold grow_Set at hF
 refine T.start (l := [.agg #[.int .i64 p0.root, .slice A1 p0.nodes.length c1], .agg #[.int .i64 p1.key.pfs, .int .i64 p1.key.obj, .int .i64 p1.key.off, .int .i64 p1.made, .int .i64 p1.gone, .string p1.val]]) Try.func14 rfl rfl rfl ?_
 refine T.seq ?_
 refine T.region ?_
 refine T.step (W1.new 24 [.int .i64 p0.root, .slice A1 p0.nodes.length c1] (fun b => .pointer (some ⟨b, 0, none⟩)) (by kernel_rfl) (fun _ => by kernel_rfl) (fun b1 => ?_))
 refine T.step (W1.new 28 [.int .i64 p1.key.pfs, .int .i64 p1.key.obj, .int .i64 p1.key.off, .int .i64 p1.made, .int .i64 p1.gone, .string p1.val] (fun b => .pointer (some ⟨b, 0, none⟩)) (by kernel_rfl) (fun _ => by kernel_rfl) (fun b2 => ?_))
 refine T.step (W1.new 24 [.int .i64 0, .slice none 0 0] (fun b => .pointer (some ⟨b, 0, none⟩)) (by kernel_rfl) (fun _ => by kernel_rfl) (fun b3 => ?_))
 refine T.pure (.int .i64 0) (by kernel_rfl) (fun _ => by kernel_rfl) ?_
 refine T.nil ?_
 refine T.seq ?_
 refine T.region ?_
 refine T.look (.agg #[.int .i64 p0.root, .slice A1 p0.nodes.length c1]) (by kernel_rfl) (fun w' hh => exec_loadN (cs := [.int .i64 p0.root, .slice A1 p0.nodes.length c1]) rfl rfl (by kernel_rfl) (by kernel_rfl) (fun j u hj => (hh.box_at (i := 2) (cs := [.int .i64 p0.root, .slice A1 p0.nodes.length c1]) (by rfl) 0 j).trans (seg_at (n := 2) (by rfl) hj))) ?_
 refine T.look (.agg #[.int .i64 p1.key.pfs, .int .i64 p1.key.obj, .int .i64 p1.key.off, .int .i64 p1.made, .int .i64 p1.gone, .string p1.val]) (by kernel_rfl) (fun w' hh => exec_loadN (cs := [.int .i64 p1.key.pfs, .int .i64 p1.key.obj, .int .i64 p1.key.off, .int .i64 p1.made, .int .i64 p1.gone, .string p1.val]) rfl rfl (by kernel_rfl) (by kernel_rfl) (fun j u hj => (hh.box_at (i := 1) (cs := [.int .i64 p1.key.pfs, .int .i64 p1.key.obj, .int .i64 p1.key.off, .int .i64 p1.made, .int .i64 p1.gone, .string p1.val]) (by rfl) 0 j).trans (seg_at (n := 6) (by rfl) hj))) ?_
 obtain ⟨r1, hb1, hF⟩ := Option.bind_eq_some_iff.1 hF
 refine T.step (W1.call (vT3 (vSc eInt) (vSc eBool) (vSc eInt)) r1 43 #[.agg #[.int .i64 p0.root, .slice A1 p0.nodes.length c1], .agg #[.int .i64 p1.key.pfs, .int .i64 p1.key.obj, .int .i64 p1.key.off, .int .i64 p1.made, .int .i64 p1.gone, .string p1.val]] (by kernel_rfl) (fun _ => by kernel_rfl) (fun w' hh => grow_look_l F p0 p1 r1 hb1 w' A1 c1 (SlOk.mono hs1 hh.view)) ?_)
 intro u V1 hV1 hu
 obtain rfl := (Sure.t3 sureInt sureBool sureInt) _ _ _ hu
 refine T.pure (.tuple #[.int .i64 r1.1, .bool r1.2.1, .int .i64 r1.2.2]) (by kernel_rfl) (fun _ => by kernel_rfl) ?_
 refine T.pure (.int .i64 r1.1) (by kernel_rfl) (fun _ => by kernel_rfl) ?_
 refine T.pure (.bool r1.2.1) (by kernel_rfl) (fun _ => by kernel_rfl) ?_
 refine T.pure (.int .i64 r1.2.2) (by kernel_rfl) (fun _ => by kernel_rfl) ?_
 refine T.pure (.int .i64 r1.1) (by kernel_rfl) (fun _ => by kernel_rfl) ?_
 refine T.pure (.bool r1.2.1) (by kernel_rfl) (fun _ => by kernel_rfl) ?_
 refine T.pure (.int .i64 r1.2.2) (by kernel_rfl) (fun _ => by kernel_rfl) ?_
 refine T.nil ?_
 refine T.seq ?_
 refine T.block ?_
 refine T.seq ?_
 refine T.region ?_
 refine T.pure (.int .i64 r1.2.2) (by kernel_rfl) (fun _ => by kernel_rfl) ?_
 refine T.pure (.bool (r1.2.2 != 0)) (by kernel_rfl) (fun _ => by kernel_rfl) ?_
 refine T.pure (.bool (r1.2.2 != 0)) (by kernel_rfl) (fun _ => by kernel_rfl) ?_
 refine T.nil ?_
 refine T.cond (r1.2.2 != 0) (by kernel_rfl) (by kernel_rfl) (fun hc1 => ?_) (fun hc1 => ?_)
 ·
  rw [hc1, cond_true] at hF
  refine T.seq ?_
  refine T.region ?_
  refine T.pure (.agg #[.int .i64 0, .slice none 0 0]) (by kernel_rfl) (fun _ => by kernel_rfl) ?_
  refine T.pure (.int .i64 r1.2.2) (by kernel_rfl) (fun _ => by kernel_rfl) ?_
  refine T.step (W1.store 0 [.int .i64 0, .slice none 0 0] [box b3 24 [.int .i64 0, .slice none 0 0], box b2 28 [.int .i64 p1.key.pfs, .int .i64 p1.key.obj, .int .i64 p1.key.off, .int .i64 p1.made, .int .i64 p1.gone, .string p1.val], box b1 24 [.int .i64 p0.root, .slice A1 p0.nodes.length c1]] (by rfl) rfl (by kernel_rfl) (fun w' hw => exec_store (vs := [.int .i64 0, .slice none 0 0]) rfl rfl rfl rfl (by kernel_rfl) (one_of rfl) (by simp) rfl hw) ?_)
  refine T.pure (.int .i64 r1.2.2) (by kernel_rfl) (fun _ => by kernel_rfl) ?_
  refine T.nil ?_
  cases hF
  refine T.ret rfl ?_
  exact T.ret2 rfl (ResIs.cellN 0 rfl (by rfl) (fun _ => by kernel_rfl) (fun _ => by kernel_rfl)) (ResIs.tmp rfl) fun w' hh => ⟨_, rfl, hh.below, (vT2.mk (vAg.mk ⟨_, _, rfl, (SlOk.nil _ _)⟩) (show _ from rfl))⟩
 ·
  rw [hc1, cond_false] at hF
  refine T.seq ?_
  refine T.region ?_
  refine T.pure (.bool r1.2.1) (by kernel_rfl) (fun _ => by kernel_rfl) ?_
  refine T.pure (.bool (!r1.2.1)) (by kernel_rfl) (fun _ => by kernel_rfl) ?_
  refine T.pure (.bool (!r1.2.1)) (by kernel_rfl) (fun _ => by kernel_rfl) ?_
  refine T.nil ?_
  refine T.cond (!r1.2.1) (by kernel_rfl) (by kernel_rfl) (fun hc2 => ?_) (fun hc2 => ?_)
  ·
   rw [hc2, cond_true] at hF
   refine T.seq ?_
   refine T.region ?_
   refine T.pure (.agg #[.int .i64 0, .slice none 0 0]) (by kernel_rfl) (fun _ => by kernel_rfl) ?_
   refine T.step (W1.store 0 [.int .i64 0, .slice none 0 0] [box b3 24 [.int .i64 0, .slice none 0 0], box b2 28 [.int .i64 p1.key.pfs, .int .i64 p1.key.obj, .int .i64 p1.key.off, .int .i64 p1.made, .int .i64 p1.gone, .string p1.val], box b1 24 [.int .i64 p0.root, .slice A1 p0.nodes.length c1]] (by rfl) rfl (by kernel_rfl) (fun w' hw => exec_store (vs := [.int .i64 0, .slice none 0 0]) rfl rfl rfl rfl (by kernel_rfl) (one_of rfl) (by simp) rfl hw) ?_)
   refine T.pure (.int .i64 4) (by kernel_rfl) (fun _ => by kernel_rfl) ?_
   refine T.nil ?_
   cases hF
   refine T.ret rfl ?_
   exact T.ret2 rfl (ResIs.cellN 0 rfl (by rfl) (fun _ => by kernel_rfl) (fun _ => by kernel_rfl)) (ResIs.tmp rfl) fun w' hh => ⟨_, rfl, hh.below, (vT2.mk (vAg.mk ⟨_, _, rfl, (SlOk.nil _ _)⟩) (show _ from rfl))⟩
  ·
   rw [hc2, cond_false] at hF
   refine T.skip_code ?_
   refine T.seq ?_
   refine T.region ?_
   refine T.look (.agg #[.int .i64 p0.root, .slice A1 p0.nodes.length c1]) (by kernel_rfl) (fun w' hh => exec_loadN (cs := [.int .i64 p0.root, .slice A1 p0.nodes.length c1]) rfl rfl (by kernel_rfl) (by kernel_rfl) (fun j u hj => (hh.box_at (i := 2) (cs := [.int .i64 p0.root, .slice A1 p0.nodes.length c1]) (by rfl) 0 j).trans (seg_at (n := 2) (by rfl) hj))) ?_
   obtain ⟨r2, hb2, hF⟩ := Option.bind_eq_some_iff.1 hF
   refine T.step (W1.callG 44 #[.agg #[.int .i64 p0.root, .slice A1 p0.nodes.length c1]] (fun p : Option Addr × Nat × List DHdr => .agg #[.int .i64 r2.root, .slice p.1 p.2.2.length p.2.1]) (fun p => [row 97 eHdr p.1 p.2.1 p.2.2, treeo (TreeTy.mk 28 3 43) p.2.2 (r2.nodes.map Sum.inr)]) (fun p => p.2.2.length = r2.nodes.length) (by kernel_rfl) (fun _ => by kernel_rfl) (fun w' hh => tree_Copy_l F p0 r2 hb2 w' A1 c1 (SlOk.mono (SlOk.mono hs1 hV1) hh.view)) ?_)
   rintro ⟨A2, c2, hs2⟩ hl1
   refine T.reH (H' := [row 97 eHdr A2 c2 hs2, treeo (TreeTy.mk 28 3 43) hs2 (r2.nodes.map Sum.inr), box b3 24 [.int .i64 0, .slice none 0 0], box b2 28 [.int .i64 p1.key.pfs, .int .i64 p1.key.obj, .int .i64 p1.key.off, .int .i64 p1.made, .int .i64 p1.gone, .string p1.val], box b1 24 [.int .i64 p0.root, .slice A1 p0.nodes.length c1]]) (by rfl) ?_
   refine T.pure (.agg #[.int .i64 r2.root, .slice A2 hs2.length c2]) (by kernel_rfl) (fun _ => by kernel_rfl) ?_
   refine T.step (W1.new 83 [.int .i64 r2.root, .slice A2 hs2.length c2] (fun b => .pointer (some ⟨b, 0, none⟩)) (by kernel_rfl) (fun _ => by kernel_rfl) (fun b4 => ?_))
   refine T.pure (.pointer (some ⟨b4, 0, none⟩)) (by kernel_rfl) (fun _ => by kernel_rfl) ?_
   refine T.nil ?_
   refine T.seq ?_
   refine T.tree 2 (by rfl) (fun ht1 => ?_)
   refine T.heldL 7 [box b4 83 [.int .i64 r2.root, .slice A2 hs2.length c2], row 97 eHdr A2 c2 hs2, box b3 24 [.int .i64 0, .slice none 0 0], box b2 28 [.int .i64 p1.key.pfs, .int .i64 p1.key.obj, .int .i64 p1.key.off, .int .i64 p1.made, .int .i64 p1.gone, .string p1.val]] (by kernel_rfl) ?_
   refine TL.takeP 0 (.pointer (some ⟨b4, 0, none⟩)) rfl (by kernel_rfl) (by kernel_rfl) (by kernel_rfl) (fun _ _ _ h => h) (by kernel_rfl) (Hp.old (View.le_refl _) hV1 (.cons_cons _ (.cons_cons _ (.cons _ (.cons_cons _ (.cons_cons _ (.cons _ List.Sublist.slnil)))))) (OldAll.box (OldAll.row (fun _ _ _ _ h => h) (OldAll.box (OldAll.box OldAll.nil))))) (by kernel_rfl) (fun _ => by kernel_rfl) ?_
   refine TL.takeP 1 (.pointer (some ⟨b4, 0, none⟩)) rfl (by kernel_rfl) (by kernel_rfl) (by kernel_rfl) (fun _ _ _ h => h) (by kernel_rfl) (Hp.old (View.le_refl _) hV1 (.cons_cons _ (.cons_cons _ (.cons _ (.cons_cons _ (.cons_cons _ (.cons _ List.Sublist.slnil)))))) (OldAll.box (OldAll.row (fun _ _ _ _ h => h) (OldAll.box (OldAll.box OldAll.nil))))) (by kernel_rfl) (fun _ => by kernel_rfl) ?_
   refine TL.takeP 2 (.pointer (some ⟨b4, 0, none⟩)) rfl (by kernel_rfl) (by kernel_rfl) (by kernel_rfl) (fun _ _ _ h => h) (by kernel_rfl) (Hp.old (View.le_refl _) hV1 (.cons_cons _ (.cons_cons _ (.cons _ (.cons_cons _ (.cons_cons _ (.cons _ List.Sublist.slnil)))))) (OldAll.box (OldAll.row (fun _ _ _ _ h => h) (OldAll.box (OldAll.box OldAll.nil))))) (by kernel_rfl) (fun _ => by kernel_rfl) ?_
   refine TL.takeP 3 (.pointer (some ⟨b4, 0, none⟩)) rfl (by kernel_rfl) (by kernel_rfl) (by kernel_rfl) (fun _ _ _ h => h) (by kernel_rfl) (Hp.old (View.le_refl _) hV1 (.cons_cons _ (.cons_cons _ (.cons _ (.cons_cons _ (.cons_cons _ (.cons _ List.Sublist.slnil)))))) (OldAll.box (OldAll.row (fun _ _ _ _ h => h) (OldAll.box (OldAll.box OldAll.nil))))) (by kernel_rfl) (fun _ => by kernel_rfl) ?_
   refine TL.takeP 4 (.pointer (some ⟨b4, 0, none⟩)) rfl (by kernel_rfl) (by kernel_rfl) (by kernel_rfl) (fun _ _ _ h => h) (by kernel_rfl) (Hp.old (View.le_refl _) hV1 (.cons_cons _ (.cons_cons _ (.cons _ (.cons_cons _ (.cons_cons _ (.cons _ List.Sublist.slnil)))))) (OldAll.box (OldAll.row (fun _ _ _ _ h => h) (OldAll.box (OldAll.box OldAll.nil))))) (by kernel_rfl) (fun _ => by kernel_rfl) ?_
   refine TL.take 5 (.int .i64 r2.root) [] rfl (by kernel_rfl) (by kernel_rfl) (by kernel_rfl) (fun _ _ _ h => h) (by kernel_rfl) (by kernel_rfl) (by kernel_rfl) (Hp.old (View.le_refl _) hV1 (.cons_cons _ (.cons_cons _ (.cons _ (.cons_cons _ (.cons_cons _ (.cons _ List.Sublist.slnil)))))) (OldAll.box (OldAll.row (fun _ _ _ _ h => h) (OldAll.box (OldAll.box OldAll.nil))))) (by kernel_rfl) (fun w' hh => exec_load1 rfl rfl (by kernel_rfl) (hh.cellBox (i := 0) (by rfl) 0)) ?_
   refine TL.take 6 (.agg #[.int .i64 p1.key.pfs, .int .i64 p1.key.obj, .int .i64 p1.key.off, .int .i64 p1.made, .int .i64 p1.gone, .string p1.val]) [] rfl (by kernel_rfl) (by kernel_rfl) (by kernel_rfl) (fun _ _ _ h => h) (by kernel_rfl) (by kernel_rfl) (by kernel_rfl) (Hp.old (View.le_refl _) hV1 (.cons_cons _ (.cons_cons _ (.cons _ (.cons_cons _ (.cons_cons _ (.cons _ List.Sublist.slnil)))))) (OldAll.box (OldAll.row (fun _ _ _ _ h => h) (OldAll.box (OldAll.box OldAll.nil))))) (by kernel_rfl) (fun w' hh => exec_loadN (cs := [.int .i64 p1.key.pfs, .int .i64 p1.key.obj, .int .i64 p1.key.off, .int .i64 p1.made, .int .i64 p1.gone, .string p1.val]) rfl rfl (by kernel_rfl) (by kernel_rfl) (fun j u hj => (hh.box_at (i := 3) (cs := [.int .i64 p1.key.pfs, .int .i64 p1.key.obj, .int .i64 p1.key.off, .int .i64 p1.made, .int .i64 p1.gone, .string p1.val]) (by rfl) 0 j).trans (seg_at (n := 6) (by rfl) hj))) ?_
   refine TL.all [7] (by kernel_rfl) rfl ⟨?_, trivial⟩
   obtain ⟨q1, hz1, hF⟩ := Option.bind_eq_some_iff.1 hF
   refine (have hq1 := fix_rec (fun (s_ : (List (Int ⊕ DNode)) × Int) (r_ : (List (Int ⊕ DNode))) => ∀ (x1 : List (Int ⊕ DNode)) (x2 : Int), s_ = (x1, x2) → ∀ (V2 : View) (G1 : List HObj) (w1 : World), View.le V1 V2 → Hp w V2 ((box b4 83 [.int .i64 r2.root, .slice A2 hs2.length c2]) :: (row 97 eHdr A2 c2 hs2) :: (treeo (TreeTy.mk 28 3 43) hs2 x1) :: G1) w1 → Calls Try.prog 45 #[.pointer (some ⟨b4, 0, none⟩), .int .i64 x2, .agg #[.int .i64 p1.key.pfs, .int .i64 p1.key.obj, .int .i64 p1.key.off, .int .i64 p1.made, .int .i64 p1.gone, .string p1.val]] w1 (fun e w2 => ∃ v, e = .returned v ∧ ∃ (z1 : List (Int ⊕ DNode)), r_ = z1 ∧ ∃ (V3 : View), View.le V2 V3 ∧ v = .tuple #[] ∧ Hp w V3 ((box b4 83 [.int .i64 r2.root, .slice A2 hs2.length c2]) :: (row 97 eHdr A2 c2 hs2) :: (treeo (TreeTy.mk 28 3 43) hs2 z1) :: G1) w2)) hz1 ?_; ?_)
   ·
    rintro rf1 ih1 s_ r_ hS1 x1 x2 rfl V2 G1 w1 hV2 hh
    try dsimp only at hS1
    refine T.startI (l := [.pointer (some ⟨b4, 0, none⟩), .int .i64 x2, .agg #[.int .i64 p1.key.pfs, .int .i64 p1.key.obj, .int .i64 p1.key.off, .int .i64 p1.made, .int .i64 p1.gone, .string p1.val]]) Try.func45 rfl rfl rfl ?_ hh
    clear hh
    refine T.seq ?_
    refine T.region ?_
    refine T.step (W1.new 28 [.int .i64 p1.key.pfs, .int .i64 p1.key.obj, .int .i64 p1.key.off, .int .i64 p1.made, .int .i64 p1.gone, .string p1.val] (fun b => .pointer (some ⟨b, 0, none⟩)) (by kernel_rfl) (fun _ => by kernel_rfl) (fun b5 => ?_))
    refine T.nil ?_
    refine T.seq ?_
    refine T.tree 3 (by rfl) (fun ht2 => ?_)
    refine T.region ?_
    refine T.pure (.pointer (some ⟨b4, 0, none⟩)) (by kernel_rfl) (fun _ => by kernel_rfl) ?_
    refine T.pure (.pointer (some ⟨b4, 0, none⟩)) (by kernel_rfl) (fun _ => by kernel_rfl) ?_
    refine T.pure (.pointer (some ⟨b4, 0, none⟩)) (by kernel_rfl) (fun _ => by kernel_rfl) ?_
    refine T.pure (.pointer (some ⟨b4, 1, none⟩)) (by kernel_rfl) (fun _ => by kernel_rfl) ?_
    refine T.look (.slice A2 hs2.length c2) (by kernel_rfl) (fun w' hh => exec_load1 rfl rfl (by kernel_rfl) (hh.cellBox (i := 1) (by rfl) 1)) ?_
    refine T.pure (.int .i64 x2) (by kernel_rfl) (fun _ => by kernel_rfl) ?_
    obtain ⟨n1, hb3, hS1⟩ := Option.bind_eq_some_iff.1 hS1
    obtain ⟨A3, c3, A4, c4, A5, c5, A6, c6, hi1, hi2, hx1⟩ := ht2.at_ hb3
    refine T.look (.pointer (some ((sadr A2).add (x2.toNat * 5)))) (by kernel_rfl) (fun w' hh => exec_indexAddr (e := 97) (s := 5) rfl rfl rfl (by kernel_rfl) (by kernel_rfl) hi1 hi2 ((hh.row_slOk (i := 2) (by rfl)).some_ hx1 (by decide))) ?_
    refine T.look (.agg #[.int .i64 n1.kind, .slice A3 n1.elems.length c3, .slice A4 n1.kids.length c4, .slice A5 n1.seps.length c5, .slice A6 n1.tids.length c6]) (by kernel_rfl) (fun w' hh => exec_loadN (cs := [.int .i64 n1.kind, .slice A3 n1.elems.length c3, .slice A4 n1.kids.length c4, .slice A5 n1.seps.length c5, .slice A6 n1.tids.length c6]) rfl rfl (by kernel_rfl) (by kernel_rfl) (fun j u hj => (SlOk.wcellF (E := eHdr) (hh.row_slOk (i := 2) (by rfl)) hx1 j (fun _ _ _ h => h) hj))) ?_
    refine T.step (W1.new 97 [.int .i64 0, .slice none 0 0, .slice none 0 0, .slice none 0 0, .slice none 0 0] (fun b => .pointer (some ⟨b, 0, none⟩)) (by kernel_rfl) (fun _ => by kernel_rfl) (fun b6 => ?_))
    refine T.step (W1.store 0 [.int .i64 n1.kind, .slice A3 n1.elems.length c3, .slice A4 n1.kids.length c4, .slice A5 n1.seps.length c5, .slice A6 n1.tids.length c6] ((box b6 97 [.int .i64 n1.kind, .slice A3 n1.elems.length c3, .slice A4 n1.kids.length c4, .slice A5 n1.seps.length c5, .slice A6 n1.tids.length c6]) :: (box b5 28 [.int .i64 p1.key.pfs, .int .i64 p1.key.obj, .int .i64 p1.key.off, .int .i64 p1.made, .int .i64 p1.gone, .string p1.val]) :: (box b4 83 [.int .i64 r2.root, .slice A2 hs2.length c2]) :: (row 97 eHdr A2 c2 hs2) :: (treeo (TreeTy.mk 28 3 43) hs2 x1) :: G1) (by rfl) rfl (by kernel_rfl) (fun w' hw => exec_store (vs := [.int .i64 n1.kind, .slice A3 n1.elems.length c3, .slice A4 n1.kids.length c4, .slice A5 n1.seps.length c5, .slice A6 n1.tids.length c6]) rfl rfl rfl rfl (by kernel_rfl) (one_of rfl) (by simp) rfl hw) ?_)
    refine T.nil ?_
    refine T.takeN (ty := (TreeTy.mk 28 3 43)) (h := (DHdr.mk n1.kind A3 n1.elems.length c3 A4 n1.kids.length c4 A5 n1.seps.length c5 A6 n1.tids.length c6)) 4 (by rfl) hb3 hx1 rfl ?_
    refine T.reH (H' := ((row 28 eElem A3 c3 n1.elems) :: (row 3 eInt A4 c4 n1.kids) :: (row 43 eSpot A5 c5 n1.seps) :: (row 3 eInt A6 c6 n1.tids) :: (box b6 97 [.int .i64 n1.kind, .slice A3 n1.elems.length c3, .slice A4 n1.kids.length c4, .slice A5 n1.seps.length c5, .slice A6 n1.tids.length c6]) :: (box b5 28 [.int .i64 p1.key.pfs, .int .i64 p1.key.obj, .int .i64 p1.key.off, .int .i64 p1.made, .int .i64 p1.gone, .string p1.val]) :: (box b4 83 [.int .i64 r2.root, .slice A2 hs2.length c2]) :: (row 97 eHdr A2 c2 hs2) :: (treeo (TreeTy.mk 28 3 43) hs2 (outAt x1 x2)) :: G1)) (by rfl) ?_
    refine T.seq ?_
    refine T.seq ?_
    refine T.region ?_
    refine T.pure (.pointer (some ⟨b6, 0, none⟩)) (by kernel_rfl) (fun _ => by kernel_rfl) ?_
    refine T.look (.int .i64 n1.kind) (by kernel_rfl) (fun w' hh => exec_load1 rfl rfl (by kernel_rfl) (hh.cellBox (i := 4) (by rfl) 0)) ?_
    refine T.pure (.bool (n1.kind == 1)) (by kernel_rfl) (fun _ => by kernel_rfl) ?_
    refine T.nil ?_
    refine T.cond (n1.kind == 1) (by kernel_rfl) (by kernel_rfl) (fun hc3 => ?_) (fun hc3 => ?_)
    ·
     rw [hc3, cond_true] at hS1
     refine T.seq ?_
     refine T.seq ?_
     refine T.tree 8 (by rfl) (fun ht3 => ?_)
     refine T.region ?_
     refine T.pure (.pointer (some ⟨b6, 1, none⟩)) (by kernel_rfl) (fun _ => by kernel_rfl) ?_
     refine T.look (.slice A3 n1.elems.length c3) (by kernel_rfl) (fun w' hh => exec_load1 rfl rfl (by kernel_rfl) (hh.cellBox (i := 4) (by rfl) 1)) ?_
     refine T.pure (.int .i64 (n1.elems.length : Int)) (by kernel_rfl) (fun _ => by kernel_rfl) ?_
     refine T.pure (.int .i64 0) (by kernel_rfl) (fun _ => by kernel_rfl) ?_
     refine T.nil ?_
     obtain ⟨z2, hz2, hS1⟩ := Option.bind_eq_some_iff.1 hS1
     refine T.mid (fun a w' => Fr 70 [] a ∧ Hp w V2 ((row 28 eElem A3 c3 z2) :: (row 3 eInt A4 c4 n1.kids) :: (row 43 eSpot A5 c5 n1.seps) :: (row 3 eInt A6 c6 n1.tids) :: (box b4 83 [.int .i64 r2.root, .slice A2 hs2.length c2]) :: (row 97 eHdr A2 c2 hs2) :: (treeo (TreeTy.mk 28 3 43) hs2 (outAt x1 x2)) :: G1) w') ?_ ?_
     ·
      refine T.block ?_
      refine T.iter (fun s1 a w' => ∃ (x3 : List DElem) (x4 : Int), s1 = (x3, x4) ∧ Fr 70 [(5, .pointer (some ⟨b5, 0, none⟩)), (6, .pointer (some ⟨b6, 0, none⟩)), (22, .int .i64 (n1.elems.length : Int)), (23, .int .i64 x4)] a ∧ Hp w V2 ((row 28 eElem A3 c3 x3) :: (row 3 eInt A4 c4 n1.kids) :: (row 43 eSpot A5 c5 n1.seps) :: (row 3 eInt A6 c6 n1.tids) :: (box b6 97 [.int .i64 n1.kind, .slice A3 x3.length c3, .slice A4 n1.kids.length c4, .slice A5 n1.seps.length c5, .slice A6 n1.tids.length c6]) :: (box b5 28 [.int .i64 p1.key.pfs, .int .i64 p1.key.obj, .int .i64 p1.key.off, .int .i64 p1.made, .int .i64 p1.gone, .string p1.val]) :: (box b4 83 [.int .i64 r2.root, .slice A2 hs2.length c2]) :: (row 97 eHdr A2 c2 hs2) :: (treeo (TreeTy.mk 28 3 43) hs2 (outAt x1 x2)) :: G1) w') hz2 ?_ ?_
      ·
       exact fun a w' hf hh => Exists.intro n1.elems (Exists.intro 0 (And.intro rfl (And.intro (((((Fr.nil hf).pick hf 23 rfl).pick hf 22 rfl).pick hf 6 rfl).pick hf 5 rfl) (hh.sub (.cons_cons _ (.cons_cons _ (.cons_cons _ (.cons_cons _ (.cons_cons _ (.cons_cons _ (.cons_cons _ (.cons_cons _ (.cons_cons _ (List.Sublist.refl _))))))))))))))
      ·
       rintro s1 y1 hY1 hr1 a w' ⟨x3, x4, rfl, hf, hh⟩
       refine (?_ : T 70 w V2 ((row 28 eElem A3 c3 x3) :: (row 3 eInt A4 c4 n1.kids) :: (row 43 eSpot A5 c5 n1.seps) :: (row 3 eInt A6 c6 n1.tids) :: (box b6 97 [.int .i64 n1.kind, .slice A3 x3.length c3, .slice A4 n1.kids.length c4, .slice A5 n1.seps.length c5, .slice A6 n1.tids.length c6]) :: (box b5 28 [.int .i64 p1.key.pfs, .int .i64 p1.key.obj, .int .i64 p1.key.off, .int .i64 p1.made, .int .i64 p1.gone, .string p1.val]) :: (box b4 83 [.int .i64 r2.root, .slice A2 hs2.length c2]) :: (row 97 eHdr A2 c2 hs2) :: (treeo (TreeTy.mk 28 3 43) hs2 (outAt x1 x2)) :: G1) [(5, .pointer (some ⟨b5, 0, none⟩)), (6, .pointer (some ⟨b6, 0, none⟩)), (22, .int .i64 (n1.elems.length : Int)), (23, .int .i64 x4)] _) a w' hf hh
       clear hf hh
       try dsimp only at hY1
       refine T.seq ?_
       refine T.region ?_
       refine T.pure (.bool (decide (x4 < (n1.elems.length : Int)))) (by kernel_rfl) (fun _ => by kernel_rfl) ?_
       refine T.nil ?_
       refine T.seq ?_
       refine T.cond (decide (x4 < (n1.elems.length : Int))) (by kernel_rfl) (by kernel_rfl) (fun hc4 => ?_) (fun hc4 => ?_)
       ·
        rw [hc4, cond_true] at hY1
        refine T.skip_code ?_
        obtain ⟨z3, hX1, hY1⟩ := Option.bind_eq_some_iff.1 hY1
        refine T.cut (fun a w' => Fr 70 [(5, .pointer (some ⟨b5, 0, none⟩)), (6, .pointer (some ⟨b6, 0, none⟩)), (22, .int .i64 (n1.elems.length : Int)), (23, .int .i64 x4)] a ∧ Hp w V2 ((row 28 eElem A3 c3 z3) :: (row 3 eInt A4 c4 n1.kids) :: (row 43 eSpot A5 c5 n1.seps) :: (row 3 eInt A6 c6 n1.tids) :: (box b6 97 [.int .i64 n1.kind, .slice A3 z3.length c3, .slice A4 n1.kids.length c4, .slice A5 n1.seps.length c5, .slice A6 n1.tids.length c6]) :: (box b5 28 [.int .i64 p1.key.pfs, .int .i64 p1.key.obj, .int .i64 p1.key.off, .int .i64 p1.made, .int .i64 p1.gone, .string p1.val]) :: (box b4 83 [.int .i64 r2.root, .slice A2 hs2.length c2]) :: (row 97 eHdr A2 c2 hs2) :: (treeo (TreeTy.mk 28 3 43) hs2 (outAt x1 x2)) :: G1) w') ?_ ?_
        ·
         refine T.block ?_
         refine T.seq ?_
         refine T.region ?_
         refine T.pure (.int .i64 x4) (by kernel_rfl) (fun _ => by kernel_rfl) ?_
         refine T.pure (.int .i64 x4) (by kernel_rfl) (fun _ => by kernel_rfl) ?_
         refine T.nil ?_
         refine T.seq ?_
         refine T.quiet (by kernel_rfl) (by kernel_rfl) ?_
         refine TQ.pure (.pointer (some ⟨b6, 1, none⟩)) (by kernel_rfl) (fun _ => by kernel_rfl) ?_
         refine TQ.look (.slice A3 x3.length c3) (by kernel_rfl) (fun w' hh => exec_load1 rfl rfl (by kernel_rfl) (hh.cellBox (i := 4) (by rfl) 1)) ?_
         refine TQ.pure (.int .i64 x4) (by kernel_rfl) (fun _ => by kernel_rfl) ?_
         obtain ⟨e1, hb4, hX1⟩ := Option.bind_eq_some_iff.1 hX1
         obtain ⟨hi3, hi4, hi5⟩ := idx_some hb4
         refine TQ.look (.pointer (some ((sadr A3).add (x4.toNat * 6)))) (by kernel_rfl) (fun w' hh => exec_indexAddr (e := 28) (s := 6) rfl rfl rfl (by kernel_rfl) (by kernel_rfl) hi3 hi4 ((hh.row_slOk (i := 0) (by rfl)).some_ hi5 (by decide))) ?_
         refine TQ.look (.agg #[.int .i64 e1.key.pfs, .int .i64 e1.key.obj, .int .i64 e1.key.off, .int .i64 e1.made, .int .i64 e1.gone, .string e1.val]) (by kernel_rfl) (fun w' hh => exec_loadN (cs := [.int .i64 e1.key.pfs, .int .i64 e1.key.obj, .int .i64 e1.key.off, .int .i64 e1.made, .int .i64 e1.gone, .string e1.val]) rfl rfl (by kernel_rfl) (by kernel_rfl) (fun j u hj => (SlOk.wcellF (E := eElem) (hh.row_slOk (i := 0) (by rfl)) hi5 j (fun _ _ _ h => h) hj))) ?_
         obtain ⟨r8, hb5, hX1⟩ := Option.bind_eq_some_iff.1 hX1
         refine TQ.call (vAg eSpot) r8 22 #[.agg #[.int .i64 e1.key.pfs, .int .i64 e1.key.obj, .int .i64 e1.key.off, .int .i64 e1.made, .int .i64 e1.gone, .string e1.val]] (.agg #[.int .i64 r8.key.pfs, .int .i64 r8.key.obj, .int .i64 r8.key.off, .int .i64 r8.made]) (fun V u hu => sureSpot V u _ hu) (by kernel_rfl) (fun _ => by kernel_rfl) (fun w' hh => elem_Spot_l e1 r8 hb5 w' ) ?_
         refine TQ.look (.agg #[.int .i64 p1.key.pfs, .int .i64 p1.key.obj, .int .i64 p1.key.off, .int .i64 p1.made, .int .i64 p1.gone, .string p1.val]) (by kernel_rfl) (fun w' hh => exec_loadN (cs := [.int .i64 p1.key.pfs, .int .i64 p1.key.obj, .int .i64 p1.key.off, .int .i64 p1.made, .int .i64 p1.gone, .string p1.val]) rfl rfl (by kernel_rfl) (by kernel_rfl) (fun j u hj => (hh.box_at (i := 5) (cs := [.int .i64 p1.key.pfs, .int .i64 p1.key.obj, .int .i64 p1.key.off, .int .i64 p1.made, .int .i64 p1.gone, .string p1.val]) (by rfl) 0 j).trans (seg_at (n := 6) (by rfl) hj))) ?_
         obtain ⟨r9, hb6, hX1⟩ := Option.bind_eq_some_iff.1 hX1
         refine TQ.call (vAg eSpot) r9 22 #[.agg #[.int .i64 p1.key.pfs, .int .i64 p1.key.obj, .int .i64 p1.key.off, .int .i64 p1.made, .int .i64 p1.gone, .string p1.val]] (.agg #[.int .i64 r9.key.pfs, .int .i64 r9.key.obj, .int .i64 r9.key.off, .int .i64 r9.made]) (fun V u hu => sureSpot V u _ hu) (by kernel_rfl) (fun _ => by kernel_rfl) (fun w' hh => elem_Spot_l p1 r9 hb6 w' ) ?_
         refine TQ.look (.bool (r8 == r9)) (by kernel_rfl) (fun w' hh => exec_eql_DSpot r8 r9 w' rfl rfl rfl) ?_
         refine TQ.nil ?_
         refine T.cond (r8 == r9) (by kernel_rfl) (by kernel_rfl) (fun hc5 => ?_) (fun hc5 => ?_)
         ·
          rw [hc5, cond_true] at hX1
          refine T.region ?_
          refine T.pure (.pointer (some ⟨b6, 1, none⟩)) (by kernel_rfl) (fun _ => by kernel_rfl) ?_
          refine T.look (.slice A3 x3.length c3) (by kernel_rfl) (fun w' hh => exec_load1 rfl rfl (by kernel_rfl) (hh.cellBox (i := 4) (by rfl) 1)) ?_
          refine T.pure (.int .i64 x4) (by kernel_rfl) (fun _ => by kernel_rfl) ?_
          refine T.look (.agg #[.int .i64 p1.key.pfs, .int .i64 p1.key.obj, .int .i64 p1.key.off, .int .i64 p1.made, .int .i64 p1.gone, .string p1.val]) (by kernel_rfl) (fun w' hh => exec_loadN (cs := [.int .i64 p1.key.pfs, .int .i64 p1.key.obj, .int .i64 p1.key.off, .int .i64 p1.made, .int .i64 p1.gone, .string p1.val]) rfl rfl (by kernel_rfl) (by kernel_rfl) (fun j u hj => (hh.box_at (i := 5) (cs := [.int .i64 p1.key.pfs, .int .i64 p1.key.obj, .int .i64 p1.key.off, .int .i64 p1.made, .int .i64 p1.gone, .string p1.val]) (by rfl) 0 j).trans (seg_at (n := 6) (by rfl) hj))) ?_
          obtain ⟨e2, hb7, hX1⟩ := Option.bind_eq_some_iff.1 hX1
          obtain ⟨hi6, hi7, hi8⟩ := idx_some hb7
          refine T.look (.pointer (some ((sadr A3).add (x4.toNat * 6)))) (by kernel_rfl) (fun w' hh => exec_indexAddr (e := 28) (s := 6) rfl rfl rfl (by kernel_rfl) (by kernel_rfl) hi6 hi7 ((hh.row_slOk (i := 0) (by rfl)).some_ hi8 (by decide))) ?_
          refine T.step (W1.storeRow (E := eElem) 0 (x4.toNat) 0 e2 p1 _ (vs := [.int .i64 p1.key.pfs, .int .i64 p1.key.obj, .int .i64 p1.key.off, .int .i64 p1.made, .int .i64 p1.gone, .string p1.val]) (by rfl) (by kernel_rfl) rfl rfl (addr_add0 _).symm rfl rfl (fun _ => by kernel_rfl) (one_of rfl) hi8 (Nat.le_of_ble_eq_true (by kernel_rfl)) (fun _ _ h => by cases h; rfl) ?_)
          refine T.reslot 27 (.slice A3 ((x3.set x4.toNat p1).length) c3) rfl (by simp only [List.length_set]) ?_
          refine T.reslot 36 (.slice A3 ((x3.set x4.toNat p1).length) c3) rfl (by simp only [List.length_set]) ?_
          refine T.reH (H' := ((row 28 eElem A3 c3 (x3.set x4.toNat p1)) :: (row 3 eInt A4 c4 n1.kids) :: (row 43 eSpot A5 c5 n1.seps) :: (row 3 eInt A6 c6 n1.tids) :: (box b6 97 [.int .i64 n1.kind, .slice A3 ((x3.set x4.toNat p1).length) c3, .slice A4 n1.kids.length c4, .slice A5 n1.seps.length c5, .slice A6 n1.tids.length c6]) :: (box b5 28 [.int .i64 p1.key.pfs, .int .i64 p1.key.obj, .int .i64 p1.key.off, .int .i64 p1.made, .int .i64 p1.gone, .string p1.val]) :: (box b4 83 [.int .i64 r2.root, .slice A2 hs2.length c2]) :: (row 97 eHdr A2 c2 hs2) :: (treeo (TreeTy.mk 28 3 43) hs2 (outAt x1 x2)) :: G1)) (by first | (simp only [List.length_set]; done) | (simp only [List.length_set]; rfl)) ?_
          refine T.nil ?_
          cases hX1
          exact fun a w' hf hh => And.intro (((((Fr.nil hf).pick hf 23 rfl).pick hf 22 rfl).pick hf 6 rfl).pick hf 5 rfl) (hh.sub (.cons_cons _ (.cons_cons _ (.cons_cons _ (.cons_cons _ (.cons_cons _ (.cons_cons _ (.cons_cons _ (.cons_cons _ (.cons_cons _ (List.Sublist.refl _)))))))))))
         ·
          rw [hc5, cond_false] at hX1
          refine T.skip_code ?_
          cases hX1
          exact fun a w' hf hh => And.intro (((((Fr.nil hf).pick hf 23 rfl).pick hf 22 rfl).pick hf 6 rfl).pick hf 5 rfl) (hh.sub (.cons_cons _ (.cons_cons _ (.cons_cons _ (.cons_cons _ (.cons_cons _ (.cons_cons _ (.cons_cons _ (.cons_cons _ (.cons_cons _ (List.Sublist.refl _)))))))))))
        ·
         rintro a w' ⟨hf, hh⟩
         refine (?_ : T 70 w V2 ((row 28 eElem A3 c3 z3) :: (row 3 eInt A4 c4 n1.kids) :: (row 43 eSpot A5 c5 n1.seps) :: (row 3 eInt A6 c6 n1.tids) :: (box b6 97 [.int .i64 n1.kind, .slice A3 z3.length c3, .slice A4 n1.kids.length c4, .slice A5 n1.seps.length c5, .slice A6 n1.tids.length c6]) :: (box b5 28 [.int .i64 p1.key.pfs, .int .i64 p1.key.obj, .int .i64 p1.key.off, .int .i64 p1.made, .int .i64 p1.gone, .string p1.val]) :: (box b4 83 [.int .i64 r2.root, .slice A2 hs2.length c2]) :: (row 97 eHdr A2 c2 hs2) :: (treeo (TreeTy.mk 28 3 43) hs2 (outAt x1 x2)) :: G1) [(5, .pointer (some ⟨b5, 0, none⟩)), (6, .pointer (some ⟨b6, 0, none⟩)), (22, .int .i64 (n1.elems.length : Int)), (23, .int .i64 x4)] _) a w' hf hh
         clear hf hh
         refine T.region ?_
         refine T.pure (.int .i64 (IntKind.i64.wrap (x4 + 1))) (by kernel_rfl) (fun _ => by kernel_rfl) ?_
         refine T.pure (.int .i64 (IntKind.i64.wrap (x4 + 1))) (by kernel_rfl) (fun _ => by kernel_rfl) ?_
         refine T.nil ?_
         cases hY1
         exact fun a w' hf hh => Exists.intro (z3, IntKind.i64.wrap (x4 + 1)) (And.intro rfl (Exists.intro z3 (Exists.intro (IntKind.i64.wrap (x4 + 1)) (And.intro rfl (And.intro (((((Fr.nil hf).pick hf 23 rfl).pick hf 22 rfl).pick hf 6 rfl).pick hf 5 rfl) (hh.sub (.cons_cons _ (.cons_cons _ (.cons_cons _ (.cons_cons _ (.cons_cons _ (.cons_cons _ (.cons_cons _ (.cons_cons _ (.cons_cons _ (List.Sublist.refl _))))))))))))))))
       ·
        rw [hc4, cond_false] at hY1
        refine T.exit ?_
        cases hY1
        cases (hr1 _ rfl)
        exact fun a w' hf hh => And.intro (Fr.nil hf) (hh.sub (.cons_cons _ (.cons_cons _ (.cons_cons _ (.cons_cons _ (.cons _ (.cons _ (.cons_cons _ (.cons_cons _ (.cons_cons _ (List.Sublist.refl _)))))))))))
     ·
      rintro a w' ⟨hf, hh⟩
      refine (?_ : T 70 w V2 ((row 28 eElem A3 c3 z2) :: (row 3 eInt A4 c4 n1.kids) :: (row 43 eSpot A5 c5 n1.seps) :: (row 3 eInt A6 c6 n1.tids) :: (box b4 83 [.int .i64 r2.root, .slice A2 hs2.length c2]) :: (row 97 eHdr A2 c2 hs2) :: (treeo (TreeTy.mk 28 3 43) hs2 (outAt x1 x2)) :: G1) [] _) a w' hf hh
      clear hf hh
      obtain ⟨u1, hb8, hS1⟩ := Option.bind_eq_some_iff.1 hS1
      refine T.putG (ty := (TreeTy.mk 28 3 43)) ((box b4 83 [.int .i64 r2.root, .slice A2 hs2.length c2]) :: (row 97 eHdr A2 c2 hs2) :: G1) (DHdr.mk n1.kind A3 n1.elems.length c3 A4 n1.kids.length c4 A5 n1.seps.length c5 A6 n1.tids.length c6) (DNode.mk n1.kind z2 n1.kids n1.seps n1.tids) (List.Perm.cons _ (List.Perm.cons _ (List.Perm.cons _ (List.Perm.cons _ (List.Perm.trans (List.Perm.cons _ (List.Perm.swap _ _ _)) (List.Perm.trans (List.Perm.swap _ _ _) (List.Perm.refl _))))))) ⟨rfl, (fitN_some hb8).1, (fitN_some hb8).2.1, (fitN_some hb8).2.2.1, (fitN_some hb8).2.2.2⟩ ht3 hi1 hx1 ?_
      have hres := Option.some.inj hS1
      subst hres
      refine T.ret rfl ?_
      repeat first | refine T.unthen ?_ | refine T.unblock ?_
      exact T.ret0 rfl  fun w' hh => ⟨_, rfl, Exists.intro (putAt (outAt x1 x2) x2 (DNode.mk n1.kind z2 n1.kids n1.seps n1.tids)) (And.intro rfl (Exists.intro V2 (And.intro (View.le_refl _) (And.intro rfl ((hh.sub (.cons_cons _ (.cons_cons _ (.cons_cons _ (List.Sublist.refl _))))).perm (List.Perm.trans (List.Perm.swap _ _ _) (List.Perm.cons _ (List.Perm.trans (List.Perm.swap _ _ _) (List.Perm.refl _)))))))))⟩
    ·
     rw [hc3, cond_false] at hS1
     refine T.skip_code ?_
     refine T.seq ?_
     refine T.tree 8 (by rfl) (fun ht4 => ?_)
     refine T.quiet (by kernel_rfl) (by kernel_rfl) ?_
     refine TQ.look (.agg #[.int .i64 n1.kind, .slice A3 n1.elems.length c3, .slice A4 n1.kids.length c4, .slice A5 n1.seps.length c5, .slice A6 n1.tids.length c6]) (by kernel_rfl) (fun w' hh => exec_loadN (cs := [.int .i64 n1.kind, .slice A3 n1.elems.length c3, .slice A4 n1.kids.length c4, .slice A5 n1.seps.length c5, .slice A6 n1.tids.length c6]) rfl rfl (by kernel_rfl) (by kernel_rfl) (fun j u hj => (hh.box_at (i := 4) (cs := [.int .i64 n1.kind, .slice A3 n1.elems.length c3, .slice A4 n1.kids.length c4, .slice A5 n1.seps.length c5, .slice A6 n1.tids.length c6]) (by rfl) 0 j).trans (seg_at (n := 5) (by rfl) hj))) ?_
     refine TQ.look (.agg #[.int .i64 p1.key.pfs, .int .i64 p1.key.obj, .int .i64 p1.key.off, .int .i64 p1.made, .int .i64 p1.gone, .string p1.val]) (by kernel_rfl) (fun w' hh => exec_loadN (cs := [.int .i64 p1.key.pfs, .int .i64 p1.key.obj, .int .i64 p1.key.off, .int .i64 p1.made, .int .i64 p1.gone, .string p1.val]) rfl rfl (by kernel_rfl) (by kernel_rfl) (fun j u hj => (hh.box_at (i := 5) (cs := [.int .i64 p1.key.pfs, .int .i64 p1.key.obj, .int .i64 p1.key.off, .int .i64 p1.made, .int .i64 p1.gone, .string p1.val]) (by rfl) 0 j).trans (seg_at (n := 6) (by rfl) hj))) ?_
     obtain ⟨r10, hb9, hS1⟩ := Option.bind_eq_some_iff.1 hS1
     refine TQ.call (vAg eSpot) r10 22 #[.agg #[.int .i64 p1.key.pfs, .int .i64 p1.key.obj, .int .i64 p1.key.off, .int .i64 p1.made, .int .i64 p1.gone, .string p1.val]] (.agg #[.int .i64 r10.key.pfs, .int .i64 r10.key.obj, .int .i64 r10.key.off, .int .i64 r10.made]) (fun V u hu => sureSpot V u _ hu) (by kernel_rfl) (fun _ => by kernel_rfl) (fun w' hh => elem_Spot_l p1 r10 hb9 w' ) ?_
     obtain ⟨r11, hb10, hS1⟩ := Option.bind_eq_some_iff.1 hS1
     refine TQ.call (vSc eInt) r11 71 #[.agg #[.int .i64 n1.kind, .slice A3 n1.elems.length c3, .slice A4 n1.kids.length c4, .slice A5 n1.seps.length c5, .slice A6 n1.tids.length c6], .agg #[.int .i64 r10.key.pfs, .int .i64 r10.key.obj, .int .i64 r10.key.off, .int .i64 r10.made]] (.int .i64 r11) (fun V u hu => sureInt V u _ hu) (by kernel_rfl) (fun _ => by kernel_rfl) (fun w' hh => node_Way_l F n1 r10 r11 hb10 w' A3 c3 (hh.row_slOk (i := 0) (by rfl)) A4 c4 (hh.row_slOk (i := 1) (by rfl)) A5 c5 (hh.row_slOk (i := 2) (by rfl)) A6 c6 (hh.row_slOk (i := 3) (by rfl))) ?_
     refine TQ.pure (.int .i64 r11) (by kernel_rfl) (fun _ => by kernel_rfl) ?_
     refine TQ.nil ?_
     refine T.seq ?_
     refine T.heldL 7 [row 28 eElem A3 c3 n1.elems, row 3 eInt A4 c4 n1.kids, row 43 eSpot A5 c5 n1.seps, row 3 eInt A6 c6 n1.tids, box b6 97 [.int .i64 n1.kind, .slice A3 n1.elems.length c3, .slice A4 n1.kids.length c4, .slice A5 n1.seps.length c5, .slice A6 n1.tids.length c6], box b5 28 [.int .i64 p1.key.pfs, .int .i64 p1.key.obj, .int .i64 p1.key.off, .int .i64 p1.made, .int .i64 p1.gone, .string p1.val], box b4 83 [.int .i64 r2.root, .slice A2 hs2.length c2], row 97 eHdr A2 c2 hs2] (by kernel_rfl) ?_
     refine TL.takeP 0 (.pointer (some ⟨b4, 0, none⟩)) rfl (by kernel_rfl) (by kernel_rfl) (by kernel_rfl) (fun _ _ _ h => h) (by kernel_rfl) (Hp.old (View.le_refl _) (View.le_trans hV1 hV2) (.cons_cons _ (.cons_cons _ (.cons_cons _ (.cons_cons _ (.cons_cons _ (.cons_cons _ (.cons_cons _ (.cons_cons _ (.cons _ (List.nil_sublist _)))))))))) (OldAll.row (fun _ _ _ _ h => h) (OldAll.row (fun _ _ _ _ h => h) (OldAll.row (fun _ _ _ _ h => h) (OldAll.row (fun _ _ _ _ h => h) (OldAll.box (OldAll.box (OldAll.box (OldAll.row (fun _ _ _ _ h => h) OldAll.nil))))))))) (by kernel_rfl) (fun _ => by kernel_rfl) ?_
     refine TL.takeP 1 (.pointer (some ⟨b6, 2, none⟩)) rfl (by kernel_rfl) (by kernel_rfl) (by kernel_rfl) (fun _ _ _ h => h) (by kernel_rfl) (Hp.old (View.le_refl _) (View.le_trans hV1 hV2) (.cons_cons _ (.cons_cons _ (.cons_cons _ (.cons_cons _ (.cons_cons _ (.cons_cons _ (.cons_cons _ (.cons_cons _ (.cons _ (List.nil_sublist _)))))))))) (OldAll.row (fun _ _ _ _ h => h) (OldAll.row (fun _ _ _ _ h => h) (OldAll.row (fun _ _ _ _ h => h) (OldAll.row (fun _ _ _ _ h => h) (OldAll.box (OldAll.box (OldAll.box (OldAll.row (fun _ _ _ _ h => h) OldAll.nil))))))))) (by kernel_rfl) (fun _ => by kernel_rfl) ?_
     refine TL.take 2 (.slice A4 n1.kids.length c4) [5, 4] rfl (by kernel_rfl) (by kernel_rfl) (by kernel_rfl) (fun _ _ _ h => h) (by kernel_rfl) (by kernel_rfl) (by kernel_rfl) (Hp.old (View.le_refl _) (View.le_trans hV1 hV2) (.cons_cons _ (.cons_cons _ (.cons_cons _ (.cons_cons _ (.cons_cons _ (.cons_cons _ (.cons_cons _ (.cons_cons _ (.cons _ (List.nil_sublist _)))))))))) (OldAll.row (fun _ _ _ _ h => h) (OldAll.row (fun _ _ _ _ h => h) (OldAll.row (fun _ _ _ _ h => h) (OldAll.row (fun _ _ _ _ h => h) (OldAll.box (OldAll.box (OldAll.box (OldAll.row (fun _ _ _ _ h => h) OldAll.nil))))))))) (by kernel_rfl) (fun w' hh => exec_load1 rfl rfl (by kernel_rfl) (hh.cellBox (i := 4) (by rfl) 2)) ?_
     refine TL.takeP 3 (.int .i64 r11) rfl (by kernel_rfl) (by kernel_rfl) (by kernel_rfl) (fun _ _ _ h => h) (by kernel_rfl) (Hp.old (View.le_refl _) (View.le_trans hV1 hV2) (.cons_cons _ (.cons_cons _ (.cons_cons _ (.cons_cons _ (.cons_cons _ (.cons_cons _ (.cons_cons _ (.cons_cons _ (.cons _ (List.nil_sublist _)))))))))) (OldAll.row (fun _ _ _ _ h => h) (OldAll.row (fun _ _ _ _ h => h) (OldAll.row (fun _ _ _ _ h => h) (OldAll.row (fun _ _ _ _ h => h) (OldAll.box (OldAll.box (OldAll.box (OldAll.row (fun _ _ _ _ h => h) OldAll.nil))))))))) (by kernel_rfl) (fun _ => by kernel_rfl) ?_
     obtain ⟨e3, hb11, hS1⟩ := Option.bind_eq_some_iff.1 hS1
     obtain ⟨hi9, hi10, hi11⟩ := idx_some hb11
     refine TL.take 4 (.pointer (some ((sadr A4).add (r11.toNat * 1)))) [5] rfl (by kernel_rfl) (by kernel_rfl) (by kernel_rfl) (fun _ _ _ h => h) (by kernel_rfl) (by kernel_rfl) (by kernel_rfl) (Hp.old (View.le_refl _) (View.le_trans hV1 hV2) (.cons_cons _ (.cons_cons _ (.cons_cons _ (.cons_cons _ (.cons_cons _ (.cons_cons _ (.cons_cons _ (.cons_cons _ (.cons _ (List.nil_sublist _)))))))))) (OldAll.row (fun _ _ _ _ h => h) (OldAll.row (fun _ _ _ _ h => h) (OldAll.row (fun _ _ _ _ h => h) (OldAll.row (fun _ _ _ _ h => h) (OldAll.box (OldAll.box (OldAll.box (OldAll.row (fun _ _ _ _ h => h) OldAll.nil))))))))) (by kernel_rfl) (fun w' hh => exec_indexAddr (e := 3) (s := 1) rfl rfl rfl (by kernel_rfl) (by kernel_rfl) hi9 hi10 ((hh.row_slOk (i := 1) (by rfl)).some_ hi11 (by decide))) ?_
     refine TL.take 5 (.int .i64 e3) [] rfl (by kernel_rfl) (by kernel_rfl) (by kernel_rfl) (fun _ _ _ h => h) (by kernel_rfl) (by kernel_rfl) (by kernel_rfl) (Hp.old (View.le_refl _) (View.le_trans hV1 hV2) (.cons_cons _ (.cons_cons _ (.cons_cons _ (.cons_cons _ (.cons_cons _ (.cons_cons _ (.cons_cons _ (.cons_cons _ (.cons _ (List.nil_sublist _)))))))))) (OldAll.row (fun _ _ _ _ h => h) (OldAll.row (fun _ _ _ _ h => h) (OldAll.row (fun _ _ _ _ h => h) (OldAll.row (fun _ _ _ _ h => h) (OldAll.box (OldAll.box (OldAll.box (OldAll.row (fun _ _ _ _ h => h) OldAll.nil))))))))) (by kernel_rfl) (fun w' hh => exec_load1 rfl rfl (by kernel_rfl) (SlOk.wcellF0 (E := eInt) (hh.row_slOk (i := 1) (by rfl)) hi11 (fun _ _ _ h => h) rfl)) ?_
     refine TL.take 6 (.agg #[.int .i64 p1.key.pfs, .int .i64 p1.key.obj, .int .i64 p1.key.off, .int .i64 p1.made, .int .i64 p1.gone, .string p1.val]) [] rfl (by kernel_rfl) (by kernel_rfl) (by kernel_rfl) (fun _ _ _ h => h) (by kernel_rfl) (by kernel_rfl) (by kernel_rfl) (Hp.old (View.le_refl _) (View.le_trans hV1 hV2) (.cons_cons _ (.cons_cons _ (.cons_cons _ (.cons_cons _ (.cons_cons _ (.cons_cons _ (.cons_cons _ (.cons_cons _ (.cons _ (List.nil_sublist _)))))))))) (OldAll.row (fun _ _ _ _ h => h) (OldAll.row (fun _ _ _ _ h => h) (OldAll.row (fun _ _ _ _ h => h) (OldAll.row (fun _ _ _ _ h => h) (OldAll.box (OldAll.box (OldAll.box (OldAll.row (fun _ _ _ _ h => h) OldAll.nil))))))))) (by kernel_rfl) (fun w' hh => exec_loadN (cs := [.int .i64 p1.key.pfs, .int .i64 p1.key.obj, .int .i64 p1.key.off, .int .i64 p1.made, .int .i64 p1.gone, .string p1.val]) rfl rfl (by kernel_rfl) (by kernel_rfl) (fun j u hj => (hh.box_at (i := 5) (cs := [.int .i64 p1.key.pfs, .int .i64 p1.key.obj, .int .i64 p1.key.off, .int .i64 p1.made, .int .i64 p1.gone, .string p1.val]) (by rfl) 0 j).trans (seg_at (n := 6) (by rfl) hj))) ?_
     refine TL.all [7] (by kernel_rfl) rfl ⟨?_, trivial⟩
     obtain ⟨z4, hz3, hS1⟩ := Option.bind_eq_some_iff.1 hS1
     refine TL.br rfl (W1.callI 45 [.pointer (some ⟨b4, 0, none⟩), .int .i64 e3, .agg #[.int .i64 p1.key.pfs, .int .i64 p1.key.obj, .int .i64 p1.key.off, .int .i64 p1.made, .int .i64 p1.gone, .string p1.val]] (fun v w' => ∃ (z4x : List (Int ⊕ DNode)), z4 = z4x ∧ ∃ (V4 : View), View.le V2 V4 ∧ v = .tuple #[] ∧ Hp w V4 ((box b4 83 [.int .i64 r2.root, .slice A2 hs2.length c2]) :: (row 97 eHdr A2 c2 hs2) :: (treeo (TreeTy.mk 28 3 43) hs2 z4x) :: (row 28 eElem A3 c3 n1.elems) :: (row 3 eInt A4 c4 n1.kids) :: (row 43 eSpot A5 c5 n1.seps) :: (row 3 eInt A6 c6 n1.tids) :: (box b6 97 [.int .i64 n1.kind, .slice A3 n1.elems.length c3, .slice A4 n1.kids.length c4, .slice A5 n1.seps.length c5, .slice A6 n1.tids.length c6]) :: (box b5 28 [.int .i64 p1.key.pfs, .int .i64 p1.key.obj, .int .i64 p1.key.off, .int .i64 p1.made, .int .i64 p1.gone, .string p1.val]) :: G1) w') (by kernel_rfl) (fun _ => by kernel_rfl) (fun w' hh => ih1 _ _ hz3 (outAt x1 x2) e3 rfl V2 ((row 28 eElem A3 c3 n1.elems) :: (row 3 eInt A4 c4 n1.kids) :: (row 43 eSpot A5 c5 n1.seps) :: (row 3 eInt A6 c6 n1.tids) :: (box b6 97 [.int .i64 n1.kind, .slice A3 n1.elems.length c3, .slice A4 n1.kids.length c4, .slice A5 n1.seps.length c5, .slice A6 n1.tids.length c6]) :: (box b5 28 [.int .i64 p1.key.pfs, .int .i64 p1.key.obj, .int .i64 p1.key.off, .int .i64 p1.made, .int .i64 p1.gone, .string p1.val]) :: G1) w' hV2 ((hh.sub (.cons_cons _ (.cons_cons _ (.cons_cons _ (.cons_cons _ (.cons_cons _ (.cons_cons _ (.cons_cons _ (.cons_cons _ (.cons_cons _ (List.Sublist.refl _))))))))))).perm (List.Perm.trans (List.Perm.cons _ (List.Perm.cons _ (List.Perm.cons _ (List.Perm.cons _ (List.Perm.cons _ (List.Perm.swap _ _ _)))))) (List.Perm.trans (List.Perm.cons _ (List.Perm.cons _ (List.Perm.cons _ (List.Perm.cons _ (List.Perm.swap _ _ _))))) (List.Perm.trans (List.Perm.cons _ (List.Perm.cons _ (List.Perm.cons _ (List.Perm.swap _ _ _)))) (List.Perm.trans (List.Perm.cons _ (List.Perm.cons _ (List.Perm.swap _ _ _))) (List.Perm.trans (List.Perm.cons _ (List.Perm.swap _ _ _)) (List.Perm.trans (List.Perm.swap _ _ _) (List.Perm.cons _ (List.Perm.trans (List.Perm.cons _ (List.Perm.cons _ (List.Perm.cons _ (List.Perm.cons _ (List.Perm.cons _ (List.Perm.swap _ _ _)))))) (List.Perm.trans (List.Perm.cons _ (List.Perm.cons _ (List.Perm.cons _ (List.Perm.cons _ (List.Perm.swap _ _ _))))) (List.Perm.trans (List.Perm.cons _ (List.Perm.cons _ (List.Perm.cons _ (List.Perm.swap _ _ _)))) (List.Perm.trans (List.Perm.cons _ (List.Perm.cons _ (List.Perm.swap _ _ _))) (List.Perm.trans (List.Perm.cons _ (List.Perm.swap _ _ _)) (List.Perm.trans (List.Perm.swap _ _ _) (List.Perm.cons _ (List.Perm.trans (List.Perm.cons _ (List.Perm.cons _ (List.Perm.cons _ (List.Perm.cons _ (List.Perm.cons _ (List.Perm.swap _ _ _)))))) (List.Perm.trans (List.Perm.cons _ (List.Perm.cons _ (List.Perm.cons _ (List.Perm.cons _ (List.Perm.swap _ _ _))))) (List.Perm.trans (List.Perm.cons _ (List.Perm.cons _ (List.Perm.cons _ (List.Perm.swap _ _ _)))) (List.Perm.trans (List.Perm.cons _ (List.Perm.cons _ (List.Perm.swap _ _ _))) (List.Perm.trans (List.Perm.cons _ (List.Perm.swap _ _ _)) (List.Perm.trans (List.Perm.swap _ _ _) (List.Perm.refl _))))))))))))))))))))))) ?_)
     rintro v w' ⟨z4x, rfl, V4, hV4, rfl, hh⟩
     try dsimp only at hS1
     refine ⟨V4, ((row 28 eElem A3 c3 n1.elems) :: (row 3 eInt A4 c4 n1.kids) :: (row 43 eSpot A5 c5 n1.seps) :: (row 3 eInt A6 c6 n1.tids) :: (box b6 97 [.int .i64 n1.kind, .slice A3 n1.elems.length c3, .slice A4 n1.kids.length c4, .slice A5 n1.seps.length c5, .slice A6 n1.tids.length c6]) :: (box b5 28 [.int .i64 p1.key.pfs, .int .i64 p1.key.obj, .int .i64 p1.key.off, .int .i64 p1.made, .int .i64 p1.gone, .string p1.val]) :: (box b4 83 [.int .i64 r2.root, .slice A2 hs2.length c2]) :: (row 97 eHdr A2 c2 hs2) :: (treeo (TreeTy.mk 28 3 43) hs2 z4) :: G1), (hh.sub (.cons_cons _ (.cons_cons _ (.cons_cons _ (.cons_cons _ (.cons_cons _ (.cons_cons _ (.cons_cons _ (.cons_cons _ (.cons_cons _ (List.Sublist.refl _))))))))))).perm (List.Perm.trans (List.Perm.cons _ (List.Perm.cons _ (List.Perm.swap _ _ _))) (List.Perm.trans (List.Perm.cons _ (List.Perm.swap _ _ _)) (List.Perm.trans (List.Perm.swap _ _ _) (List.Perm.cons _ (List.Perm.trans (List.Perm.cons _ (List.Perm.cons _ (List.Perm.swap _ _ _))) (List.Perm.trans (List.Perm.cons _ (List.Perm.swap _ _ _)) (List.Perm.trans (List.Perm.swap _ _ _) (List.Perm.cons _ (List.Perm.trans (List.Perm.cons _ (List.Perm.cons _ (List.Perm.swap _ _ _))) (List.Perm.trans (List.Perm.cons _ (List.Perm.swap _ _ _)) (List.Perm.trans (List.Perm.swap _ _ _) (List.Perm.cons _ (List.Perm.trans (List.Perm.cons _ (List.Perm.cons _ (List.Perm.swap _ _ _))) (List.Perm.trans (List.Perm.cons _ (List.Perm.swap _ _ _)) (List.Perm.trans (List.Perm.swap _ _ _) (List.Perm.cons _ (List.Perm.trans (List.Perm.cons _ (List.Perm.cons _ (List.Perm.swap _ _ _))) (List.Perm.trans (List.Perm.cons _ (List.Perm.swap _ _ _)) (List.Perm.trans (List.Perm.swap _ _ _) (List.Perm.cons _ (List.Perm.trans (List.Perm.cons _ (List.Perm.cons _ (List.Perm.swap _ _ _))) (List.Perm.trans (List.Perm.cons _ (List.Perm.swap _ _ _)) (List.Perm.trans (List.Perm.swap _ _ _) (List.Perm.refl _)))))))))))))))))))))))), ?_⟩
     clear hh
     refine TL.onW (by kernel_rfl) ?_
     refine TL.done (by kernel_rfl) ?_
     refine T.tree 8 (by rfl) (fun ht5 => ?_)
     refine T.heldL 17 [row 28 eElem A3 c3 n1.elems, row 3 eInt A4 c4 n1.kids, row 43 eSpot A5 c5 n1.seps, row 3 eInt A6 c6 n1.tids, box b6 97 [.int .i64 n1.kind, .slice A3 n1.elems.length c3, .slice A4 n1.kids.length c4, .slice A5 n1.seps.length c5, .slice A6 n1.tids.length c6], box b4 83 [.int .i64 r2.root, .slice A2 hs2.length c2], row 97 eHdr A2 c2 hs2] (by kernel_rfl) ?_
     refine TL.takeP 0 (.pointer (some ⟨b6, 4, none⟩)) rfl (by kernel_rfl) (by kernel_rfl) (by kernel_rfl) (fun _ _ _ h => h) (by kernel_rfl) (Hp.old (View.le_refl _) (View.le_trans (View.le_trans hV1 hV2) hV4) (.cons_cons _ (.cons_cons _ (.cons_cons _ (.cons_cons _ (.cons_cons _ (.cons _ (.cons_cons _ (.cons_cons _ (.cons _ (List.nil_sublist _)))))))))) (OldAll.row (fun _ _ _ _ h => h) (OldAll.row (fun _ _ _ _ h => h) (OldAll.row (fun _ _ _ _ h => h) (OldAll.row (fun _ _ _ _ h => h) (OldAll.box (OldAll.box (OldAll.row (fun _ _ _ _ h => h) OldAll.nil)))))))) (by kernel_rfl) (fun _ => by kernel_rfl) ?_
     refine TL.take 1 (.slice A6 n1.tids.length c6) [] rfl (by kernel_rfl) (by kernel_rfl) (by kernel_rfl) (fun _ _ _ h => h) (by kernel_rfl) (by kernel_rfl) (by kernel_rfl) (Hp.old (View.le_refl _) (View.le_trans (View.le_trans hV1 hV2) hV4) (.cons_cons _ (.cons_cons _ (.cons_cons _ (.cons_cons _ (.cons_cons _ (.cons _ (.cons_cons _ (.cons_cons _ (.cons _ (List.nil_sublist _)))))))))) (OldAll.row (fun _ _ _ _ h => h) (OldAll.row (fun _ _ _ _ h => h) (OldAll.row (fun _ _ _ _ h => h) (OldAll.row (fun _ _ _ _ h => h) (OldAll.box (OldAll.box (OldAll.row (fun _ _ _ _ h => h) OldAll.nil)))))))) (by kernel_rfl) (fun w' hh => exec_load1 rfl rfl (by kernel_rfl) (hh.cellBox (i := 4) (by rfl) 4)) ?_
     refine TL.takeP 2 (.int .i64 r11) rfl (by kernel_rfl) (by kernel_rfl) (by kernel_rfl) (fun _ _ _ h => h) (by kernel_rfl) (Hp.old (View.le_refl _) (View.le_trans (View.le_trans hV1 hV2) hV4) (.cons_cons _ (.cons_cons _ (.cons_cons _ (.cons_cons _ (.cons_cons _ (.cons _ (.cons_cons _ (.cons_cons _ (.cons _ (List.nil_sublist _)))))))))) (OldAll.row (fun _ _ _ _ h => h) (OldAll.row (fun _ _ _ _ h => h) (OldAll.row (fun _ _ _ _ h => h) (OldAll.row (fun _ _ _ _ h => h) (OldAll.box (OldAll.box (OldAll.row (fun _ _ _ _ h => h) OldAll.nil)))))))) (by kernel_rfl) (fun _ => by kernel_rfl) ?_
     refine TL.takeP 3 (.pointer (some ⟨b4, 0, none⟩)) rfl (by kernel_rfl) (by kernel_rfl) (by kernel_rfl) (fun _ _ _ h => h) (by kernel_rfl) (Hp.old (View.le_refl _) (View.le_trans (View.le_trans hV1 hV2) hV4) (.cons_cons _ (.cons_cons _ (.cons_cons _ (.cons_cons _ (.cons_cons _ (.cons _ (.cons_cons _ (.cons_cons _ (.cons _ (List.nil_sublist _)))))))))) (OldAll.row (fun _ _ _ _ h => h) (OldAll.row (fun _ _ _ _ h => h) (OldAll.row (fun _ _ _ _ h => h) (OldAll.row (fun _ _ _ _ h => h) (OldAll.box (OldAll.box (OldAll.row (fun _ _ _ _ h => h) OldAll.nil)))))))) (by kernel_rfl) (fun _ => by kernel_rfl) ?_
     refine TL.takeP 4 (.pointer (some ⟨b4, 0, none⟩)) rfl (by kernel_rfl) (by kernel_rfl) (by kernel_rfl) (fun _ _ _ h => h) (by kernel_rfl) (Hp.old (View.le_refl _) (View.le_trans (View.le_trans hV1 hV2) hV4) (.cons_cons _ (.cons_cons _ (.cons_cons _ (.cons_cons _ (.cons_cons _ (.cons _ (.cons_cons _ (.cons_cons _ (.cons _ (List.nil_sublist _)))))))))) (OldAll.row (fun _ _ _ _ h => h) (OldAll.row (fun _ _ _ _ h => h) (OldAll.row (fun _ _ _ _ h => h) (OldAll.row (fun _ _ _ _ h => h) (OldAll.box (OldAll.box (OldAll.row (fun _ _ _ _ h => h) OldAll.nil)))))))) (by kernel_rfl) (fun _ => by kernel_rfl) ?_
     refine TL.takeP 5 (.pointer (some ⟨b4, 0, none⟩)) rfl (by kernel_rfl) (by kernel_rfl) (by kernel_rfl) (fun _ _ _ h => h) (by kernel_rfl) (Hp.old (View.le_refl _) (View.le_trans (View.le_trans hV1 hV2) hV4) (.cons_cons _ (.cons_cons _ (.cons_cons _ (.cons_cons _ (.cons_cons _ (.cons _ (.cons_cons _ (.cons_cons _ (.cons _ (List.nil_sublist _)))))))))) (OldAll.row (fun _ _ _ _ h => h) (OldAll.row (fun _ _ _ _ h => h) (OldAll.row (fun _ _ _ _ h => h) (OldAll.row (fun _ _ _ _ h => h) (OldAll.box (OldAll.box (OldAll.row (fun _ _ _ _ h => h) OldAll.nil)))))))) (by kernel_rfl) (fun _ => by kernel_rfl) ?_
     refine TL.takeP 6 (.pointer (some ⟨b4, 1, none⟩)) rfl (by kernel_rfl) (by kernel_rfl) (by kernel_rfl) (fun _ _ _ h => h) (by kernel_rfl) (Hp.old (View.le_refl _) (View.le_trans (View.le_trans hV1 hV2) hV4) (.cons_cons _ (.cons_cons _ (.cons_cons _ (.cons_cons _ (.cons_cons _ (.cons _ (.cons_cons _ (.cons_cons _ (.cons _ (List.nil_sublist _)))))))))) (OldAll.row (fun _ _ _ _ h => h) (OldAll.row (fun _ _ _ _ h => h) (OldAll.row (fun _ _ _ _ h => h) (OldAll.row (fun _ _ _ _ h => h) (OldAll.box (OldAll.box (OldAll.row (fun _ _ _ _ h => h) OldAll.nil)))))))) (by kernel_rfl) (fun _ => by kernel_rfl) ?_
     refine TL.take 7 (.slice A2 hs2.length c2) [] rfl (by kernel_rfl) (by kernel_rfl) (by kernel_rfl) (fun _ _ _ h => h) (by kernel_rfl) (by kernel_rfl) (by kernel_rfl) (Hp.old (View.le_refl _) (View.le_trans (View.le_trans hV1 hV2) hV4) (.cons_cons _ (.cons_cons _ (.cons_cons _ (.cons_cons _ (.cons_cons _ (.cons _ (.cons_cons _ (.cons_cons _ (.cons _ (List.nil_sublist _)))))))))) (OldAll.row (fun _ _ _ _ h => h) (OldAll.row (fun _ _ _ _ h => h) (OldAll.row (fun _ _ _ _ h => h) (OldAll.row (fun _ _ _ _ h => h) (OldAll.box (OldAll.box (OldAll.row (fun _ _ _ _ h => h) OldAll.nil)))))))) (by kernel_rfl) (fun w' hh => exec_load1 rfl rfl (by kernel_rfl) (hh.cellBox (i := 5) (by rfl) 1)) ?_
     refine TL.takeP 8 (.pointer (some ⟨b6, 2, none⟩)) rfl (by kernel_rfl) (by kernel_rfl) (by kernel_rfl) (fun _ _ _ h => h) (by kernel_rfl) (Hp.old (View.le_refl _) (View.le_trans (View.le_trans hV1 hV2) hV4) (.cons_cons _ (.cons_cons _ (.cons_cons _ (.cons_cons _ (.cons_cons _ (.cons _ (.cons_cons _ (.cons_cons _ (.cons _ (List.nil_sublist _)))))))))) (OldAll.row (fun _ _ _ _ h => h) (OldAll.row (fun _ _ _ _ h => h) (OldAll.row (fun _ _ _ _ h => h) (OldAll.row (fun _ _ _ _ h => h) (OldAll.box (OldAll.box (OldAll.row (fun _ _ _ _ h => h) OldAll.nil)))))))) (by kernel_rfl) (fun _ => by kernel_rfl) ?_
     refine TL.take 9 (.slice A4 n1.kids.length c4) [] rfl (by kernel_rfl) (by kernel_rfl) (by kernel_rfl) (fun _ _ _ h => h) (by kernel_rfl) (by kernel_rfl) (by kernel_rfl) (Hp.old (View.le_refl _) (View.le_trans (View.le_trans hV1 hV2) hV4) (.cons_cons _ (.cons_cons _ (.cons_cons _ (.cons_cons _ (.cons_cons _ (.cons _ (.cons_cons _ (.cons_cons _ (.cons _ (List.nil_sublist _)))))))))) (OldAll.row (fun _ _ _ _ h => h) (OldAll.row (fun _ _ _ _ h => h) (OldAll.row (fun _ _ _ _ h => h) (OldAll.row (fun _ _ _ _ h => h) (OldAll.box (OldAll.box (OldAll.row (fun _ _ _ _ h => h) OldAll.nil)))))))) (by kernel_rfl) (fun w' hh => exec_load1 rfl rfl (by kernel_rfl) (hh.cellBox (i := 4) (by rfl) 2)) ?_
     refine TL.takeP 10 (.int .i64 r11) rfl (by kernel_rfl) (by kernel_rfl) (by kernel_rfl) (fun _ _ _ h => h) (by kernel_rfl) (Hp.old (View.le_refl _) (View.le_trans (View.le_trans hV1 hV2) hV4) (.cons_cons _ (.cons_cons _ (.cons_cons _ (.cons_cons _ (.cons_cons _ (.cons _ (.cons_cons _ (.cons_cons _ (.cons _ (List.nil_sublist _)))))))))) (OldAll.row (fun _ _ _ _ h => h) (OldAll.row (fun _ _ _ _ h => h) (OldAll.row (fun _ _ _ _ h => h) (OldAll.row (fun _ _ _ _ h => h) (OldAll.box (OldAll.box (OldAll.row (fun _ _ _ _ h => h) OldAll.nil)))))))) (by kernel_rfl) (fun _ => by kernel_rfl) ?_
     obtain ⟨e4, hb12, hS1⟩ := Option.bind_eq_some_iff.1 hS1
     obtain ⟨hi12, hi13, hi14⟩ := idx_some hb12
     refine TL.take 11 (.pointer (some ((sadr A4).add (r11.toNat * 1)))) [] rfl (by kernel_rfl) (by kernel_rfl) (by kernel_rfl) (fun _ _ _ h => h) (by kernel_rfl) (by kernel_rfl) (by kernel_rfl) (Hp.old (View.le_refl _) (View.le_trans (View.le_trans hV1 hV2) hV4) (.cons_cons _ (.cons_cons _ (.cons_cons _ (.cons_cons _ (.cons_cons _ (.cons _ (.cons_cons _ (.cons_cons _ (.cons _ (List.nil_sublist _)))))))))) (OldAll.row (fun _ _ _ _ h => h) (OldAll.row (fun _ _ _ _ h => h) (OldAll.row (fun _ _ _ _ h => h) (OldAll.row (fun _ _ _ _ h => h) (OldAll.box (OldAll.box (OldAll.row (fun _ _ _ _ h => h) OldAll.nil)))))))) (by kernel_rfl) (fun w' hh => exec_indexAddr (e := 3) (s := 1) rfl rfl rfl (by kernel_rfl) (by kernel_rfl) hi12 hi13 ((hh.row_slOk (i := 1) (by rfl)).some_ hi14 (by decide))) ?_
     refine TL.take 12 (.int .i64 e4) [] rfl (by kernel_rfl) (by kernel_rfl) (by kernel_rfl) (fun _ _ _ h => h) (by kernel_rfl) (by kernel_rfl) (by kernel_rfl) (Hp.old (View.le_refl _) (View.le_trans (View.le_trans hV1 hV2) hV4) (.cons_cons _ (.cons_cons _ (.cons_cons _ (.cons_cons _ (.cons_cons _ (.cons _ (.cons_cons _ (.cons_cons _ (.cons _ (List.nil_sublist _)))))))))) (OldAll.row (fun _ _ _ _ h => h) (OldAll.row (fun _ _ _ _ h => h) (OldAll.row (fun _ _ _ _ h => h) (OldAll.row (fun _ _ _ _ h => h) (OldAll.box (OldAll.box (OldAll.row (fun _ _ _ _ h => h) OldAll.nil)))))))) (by kernel_rfl) (fun w' hh => exec_load1 rfl rfl (by kernel_rfl) (SlOk.wcellF0 (E := eInt) (hh.row_slOk (i := 1) (by rfl)) hi14 (fun _ _ _ h => h) rfl)) ?_
     obtain ⟨n2, hb13, hS1⟩ := Option.bind_eq_some_iff.1 hS1
     obtain ⟨A7, c7, A8, c8, A9, c9, A10, c10, hi15, hi16, hx2⟩ := ht5.at_ hb13
     refine TL.take 13 (.pointer (some ((sadr A2).add (e4.toNat * 5)))) [] rfl (by kernel_rfl) (by kernel_rfl) (by kernel_rfl) (fun _ _ _ h => h) (by kernel_rfl) (by kernel_rfl) (by kernel_rfl) (Hp.old (View.le_refl _) (View.le_trans (View.le_trans hV1 hV2) hV4) (.cons_cons _ (.cons_cons _ (.cons_cons _ (.cons_cons _ (.cons_cons _ (.cons _ (.cons_cons _ (.cons_cons _ (.cons _ (List.nil_sublist _)))))))))) (OldAll.row (fun _ _ _ _ h => h) (OldAll.row (fun _ _ _ _ h => h) (OldAll.row (fun _ _ _ _ h => h) (OldAll.row (fun _ _ _ _ h => h) (OldAll.box (OldAll.box (OldAll.row (fun _ _ _ _ h => h) OldAll.nil)))))))) (by kernel_rfl) (fun w' hh => exec_indexAddr (e := 97) (s := 5) rfl rfl rfl (by kernel_rfl) (by kernel_rfl) hi15 hi16 ((hh.row_slOk (i := 6) (by rfl)).some_ hx2 (by decide))) ?_
     refine TL.take 14 (.agg #[.int .i64 n2.kind, .slice A7 n2.elems.length c7, .slice A8 n2.kids.length c8, .slice A9 n2.seps.length c9, .slice A10 n2.tids.length c10]) [] rfl (by kernel_rfl) (by kernel_rfl) (by kernel_rfl) (fun _ _ _ h => h) (by kernel_rfl) (by kernel_rfl) (by kernel_rfl) (Hp.old (View.le_refl _) (View.le_trans (View.le_trans hV1 hV2) hV4) (.cons_cons _ (.cons_cons _ (.cons_cons _ (.cons_cons _ (.cons_cons _ (.cons _ (.cons_cons _ (.cons_cons _ (.cons _ (List.nil_sublist _)))))))))) (OldAll.row (fun _ _ _ _ h => h) (OldAll.row (fun _ _ _ _ h => h) (OldAll.row (fun _ _ _ _ h => h) (OldAll.row (fun _ _ _ _ h => h) (OldAll.box (OldAll.box (OldAll.row (fun _ _ _ _ h => h) OldAll.nil)))))))) (by kernel_rfl) (fun w' hh => exec_loadN (cs := [.int .i64 n2.kind, .slice A7 n2.elems.length c7, .slice A8 n2.kids.length c8, .slice A9 n2.seps.length c9, .slice A10 n2.tids.length c10]) rfl rfl (by kernel_rfl) (by kernel_rfl) (fun j u hj => (SlOk.wcellF (E := eHdr) (hh.row_slOk (i := 6) (by rfl)) hx2 j (fun _ _ _ h => h) hj))) ?_
     refine TL.all [15] (by kernel_rfl) rfl ⟨?_, trivial⟩
     obtain ⟨r12, hb14, hS1⟩ := Option.bind_eq_some_iff.1 hS1
     refine TL.br rfl (W1.call (vSc eInt) r12 60 #[.agg #[.int .i64 n2.kind, .slice A7 n2.elems.length c7, .slice A8 n2.kids.length c8, .slice A9 n2.seps.length c9, .slice A10 n2.tids.length c10]] (by kernel_rfl) (fun _ => by kernel_rfl) (fun w' hh => node_Greatest_l F n2 r12 hb14 w' A7 c7 (hh.lent (i := 8) (by rfl) hb13 hx2).1 A8 c8 (hh.lent (i := 8) (by rfl) hb13 hx2).2.1 A9 c9 (hh.lent (i := 8) (by rfl) hb13 hx2).2.2.1 A10 c10 (hh.lent (i := 8) (by rfl) hb13 hx2).2.2.2) ?_)
     intro u V5 hV5 hu
     obtain rfl := sureInt _ _ _ hu
     refine TL.on (Hp.old hV5 (View.le_trans (View.le_trans hV1 hV2) hV4) (.cons_cons _ (.cons_cons _ (.cons_cons _ (.cons_cons _ (.cons_cons _ (.cons _ (.cons_cons _ (.cons_cons _ (.cons _ (List.nil_sublist _)))))))))) (OldAll.row (fun _ _ _ _ h => h) (OldAll.row (fun _ _ _ _ h => h) (OldAll.row (fun _ _ _ _ h => h) (OldAll.row (fun _ _ _ _ h => h) (OldAll.box (OldAll.box (OldAll.row (fun _ _ _ _ h => h) OldAll.nil)))))))) ?_
     obtain ⟨e5, hb15, hS1⟩ := Option.bind_eq_some_iff.1 hS1
     obtain ⟨hi17, hi18, hi19⟩ := idx_some hb15
     refine TL.take 16 (.pointer (some ((sadr A6).add (r11.toNat * 1)))) [] rfl (by kernel_rfl) (by kernel_rfl) (by kernel_rfl) (fun _ _ _ h => h) (by kernel_rfl) (by kernel_rfl) (by kernel_rfl) (Hp.old hV5 (View.le_trans (View.le_trans hV1 hV2) hV4) (.cons_cons _ (.cons_cons _ (.cons_cons _ (.cons_cons _ (.cons_cons _ (.cons _ (.cons_cons _ (.cons_cons _ (.cons _ (List.nil_sublist _)))))))))) (OldAll.row (fun _ _ _ _ h => h) (OldAll.row (fun _ _ _ _ h => h) (OldAll.row (fun _ _ _ _ h => h) (OldAll.row (fun _ _ _ _ h => h) (OldAll.box (OldAll.box (OldAll.row (fun _ _ _ _ h => h) OldAll.nil)))))))) (by kernel_rfl) (fun w' hh => exec_indexAddr (e := 3) (s := 1) rfl rfl rfl (by kernel_rfl) (by kernel_rfl) hi17 hi18 ((hh.row_slOk (i := 3) (by rfl)).some_ hi19 (by decide))) ?_
     refine TL.all [17] (by kernel_rfl) rfl ⟨?_, trivial⟩
     refine TL.br rfl (W1.storeRow (E := eInt) 3 (r11.toNat) 0 e5 r12 _ (vs := [.int .i64 r12]) (by rfl) (by kernel_rfl) rfl rfl (addr_add0 _).symm rfl rfl (fun _ => by kernel_rfl) (one_of rfl) hi19 (Nat.le_of_ble_eq_true (by kernel_rfl)) (fun _ _ h => by cases h; rfl) ?_)
     refine TL.onW (by kernel_rfl) ?_
     refine T.reslot 16 (.agg #[.int .i64 n1.kind, .slice A3 n1.elems.length c3, .slice A4 n1.kids.length c4, .slice A5 n1.seps.length c5, .slice A6 ((n1.tids.set r11.toNat r12).length) c6]) rfl (by simp only [List.length_set]) ?_
     refine T.reslot 41 (.agg #[.int .i64 n1.kind, .slice A3 n1.elems.length c3, .slice A4 n1.kids.length c4, .slice A5 n1.seps.length c5, .slice A6 ((n1.tids.set r11.toNat r12).length) c6]) rfl (by simp only [List.length_set]) ?_
     refine T.reslot 54 (.slice A6 ((n1.tids.set r11.toNat r12).length) c6) rfl (by simp only [List.length_set]) ?_
     refine T.reH (H' := ((row 28 eElem A3 c3 n1.elems) :: (row 3 eInt A4 c4 n1.kids) :: (row 43 eSpot A5 c5 n1.seps) :: (row 3 eInt A6 c6 (n1.tids.set r11.toNat r12)) :: (box b6 97 [.int .i64 n1.kind, .slice A3 n1.elems.length c3, .slice A4 n1.kids.length c4, .slice A5 n1.seps.length c5, .slice A6 ((n1.tids.set r11.toNat r12).length) c6]) :: (box b5 28 [.int .i64 p1.key.pfs, .int .i64 p1.key.obj, .int .i64 p1.key.off, .int .i64 p1.made, .int .i64 p1.gone, .string p1.val]) :: (box b4 83 [.int .i64 r2.root, .slice A2 hs2.length c2]) :: (row 97 eHdr A2 c2 hs2) :: (treeo (TreeTy.mk 28 3 43) hs2 z4) :: G1)) (by first | (simp only [List.length_set]; done) | (simp only [List.length_set]; rfl)) ?_
     refine TL.done (by kernel_rfl) ?_
     obtain ⟨u2, hb16, hS1⟩ := Option.bind_eq_some_iff.1 hS1
     refine T.putG (ty := (TreeTy.mk 28 3 43)) ((box b6 97 [.int .i64 n1.kind, .slice A3 n1.elems.length c3, .slice A4 n1.kids.length c4, .slice A5 n1.seps.length c5, .slice A6 ((n1.tids.set r11.toNat r12).length) c6]) :: (box b5 28 [.int .i64 p1.key.pfs, .int .i64 p1.key.obj, .int .i64 p1.key.off, .int .i64 p1.made, .int .i64 p1.gone, .string p1.val]) :: (box b4 83 [.int .i64 r2.root, .slice A2 hs2.length c2]) :: (row 97 eHdr A2 c2 hs2) :: G1) (DHdr.mk n1.kind A3 n1.elems.length c3 A4 n1.kids.length c4 A5 n1.seps.length c5 A6 n1.tids.length c6) (DNode.mk n1.kind n1.elems n1.kids n1.seps (n1.tids.set r11.toNat r12)) (List.Perm.cons _ (List.Perm.cons _ (List.Perm.cons _ (List.Perm.cons _ (List.Perm.trans (List.Perm.cons _ (List.Perm.cons _ (List.Perm.cons _ (List.Perm.swap _ _ _)))) (List.Perm.trans (List.Perm.cons _ (List.Perm.cons _ (List.Perm.swap _ _ _))) (List.Perm.trans (List.Perm.cons _ (List.Perm.swap _ _ _)) (List.Perm.trans (List.Perm.swap _ _ _) (List.Perm.refl _))))))))) ⟨rfl, (fitN_some hb16).1, (fitN_some hb16).2.1, (fitN_some hb16).2.2.1, (fitN_some hb16).2.2.2⟩ ht5 hi1 hx1 ?_
     have hres := Option.some.inj hS1
     subst hres
     exact T.end0 rfl  fun w' hh => ⟨_, rfl, Exists.intro (putAt z4 x2 (DNode.mk n1.kind n1.elems n1.kids n1.seps (n1.tids.set r11.toNat r12))) (And.intro rfl (Exists.intro V5 (And.intro (View.le_trans hV4 hV5) (And.intro rfl ((hh.sub (.cons_cons _ (.cons _ (.cons _ (.cons_cons _ (.cons_cons _ (List.Sublist.refl _))))))).perm (List.Perm.trans (List.Perm.swap _ _ _) (List.Perm.cons _ (List.Perm.trans (List.Perm.swap _ _ _) (List.Perm.refl _)))))))))⟩
   refine TL.br rfl (W1.callI 45 [.pointer (some ⟨b4, 0, none⟩), .int .i64 r2.root, .agg #[.int .i64 p1.key.pfs, .int .i64 p1.key.obj, .int .i64 p1.key.off, .int .i64 p1.made, .int .i64 p1.gone, .string p1.val]] (fun v w' => ∃ (q1x : List (Int ⊕ DNode)), q1 = q1x ∧ ∃ (V6 : View), View.le V1 V6 ∧ v = .tuple #[] ∧ Hp w V6 [box b4 83 [.int .i64 r2.root, .slice A2 hs2.length c2], row 97 eHdr A2 c2 hs2, treeo (TreeTy.mk 28 3 43) hs2 q1x, box b3 24 [.int .i64 0, .slice none 0 0], box b2 28 [.int .i64 p1.key.pfs, .int .i64 p1.key.obj, .int .i64 p1.key.off, .int .i64 p1.made, .int .i64 p1.gone, .string p1.val], box b1 24 [.int .i64 p0.root, .slice A1 p0.nodes.length c1]] w') (by kernel_rfl) (fun _ => by kernel_rfl) (fun w' hh => hq1 (r2.nodes.map Sum.inr) r2.root rfl V1 [box b3 24 [.int .i64 0, .slice none 0 0], box b2 28 [.int .i64 p1.key.pfs, .int .i64 p1.key.obj, .int .i64 p1.key.off, .int .i64 p1.made, .int .i64 p1.gone, .string p1.val], box b1 24 [.int .i64 p0.root, .slice A1 p0.nodes.length c1]] w' (View.le_refl _) (hh.sub (.cons_cons _ (.cons_cons _ (.cons_cons _ (.cons_cons _ (.cons_cons _ (.cons_cons _ List.Sublist.slnil)))))))) ?_)
   rintro v w' ⟨q1x, rfl, V6, hV6, rfl, hh⟩
   try dsimp only at hF
   refine ⟨_, _, hh, ?_⟩
   clear hh
   refine TL.onW (by kernel_rfl) ?_
   refine TL.done (by kernel_rfl) ?_
   refine T.seq ?_
   refine T.region ?_
   refine T.pure (.pointer (some ⟨b4, 0, none⟩)) (by kernel_rfl) (fun _ => by kernel_rfl) ?_
   refine T.pure (.pointer (some ⟨b4, 0, none⟩)) (by kernel_rfl) (fun _ => by kernel_rfl) ?_
   refine T.pure (.pointer (some ⟨b4, 0, none⟩)) (by kernel_rfl) (fun _ => by kernel_rfl) ?_
   refine T.look (.agg #[.int .i64 r2.root, .slice A2 hs2.length c2]) (by kernel_rfl) (fun w' hh => exec_loadN (cs := [.int .i64 r2.root, .slice A2 hs2.length c2]) rfl rfl (by kernel_rfl) (by kernel_rfl) (fun j u hj => (hh.box_at (i := 0) (cs := [.int .i64 r2.root, .slice A2 hs2.length c2]) (by rfl) 0 j).trans (seg_at (n := 2) (by rfl) hj))) ?_
   refine T.step (W1.store 3 [.int .i64 r2.root, .slice A2 hs2.length c2] [box b4 83 [.int .i64 r2.root, .slice A2 hs2.length c2], row 97 eHdr A2 c2 hs2, treeo (TreeTy.mk 28 3 43) hs2 q1, box b3 24 [.int .i64 r2.root, .slice A2 hs2.length c2], box b2 28 [.int .i64 p1.key.pfs, .int .i64 p1.key.obj, .int .i64 p1.key.off, .int .i64 p1.made, .int .i64 p1.gone, .string p1.val], box b1 24 [.int .i64 p0.root, .slice A1 p0.nodes.length c1]] (by rfl) rfl (by kernel_rfl) (fun w' hw => exec_store (vs := [.int .i64 r2.root, .slice A2 hs2.length c2]) rfl rfl rfl rfl (by kernel_rfl) (one_of rfl) (by simp) rfl hw) ?_)
   refine T.pure (.int .i64 0) (by kernel_rfl) (fun _ => by kernel_rfl) ?_
   refine T.nil ?_
   obtain ⟨l1, hb17, hF⟩ := Option.bind_eq_some_iff.1 hF
   refine T.reH (H' := [box b4 83 [.int .i64 r2.root, .slice A2 hs2.length c2], row 97 eHdr A2 c2 hs2, treeo (TreeTy.mk 28 3 43) hs2 (l1.map Sum.inr), box b3 24 [.int .i64 r2.root, .slice A2 hs2.length c2], box b2 28 [.int .i64 p1.key.pfs, .int .i64 p1.key.obj, .int .i64 p1.key.off, .int .i64 p1.made, .int .i64 p1.gone, .string p1.val], box b1 24 [.int .i64 p0.root, .slice A1 p0.nodes.length c1]]) (by rw [allN_some hb17]) ?_
   refine T.freezeTree (ty := (TreeTy.mk 28 3 43)) (tn := 97) (l := l1) (H' := [box b4 83 [.int .i64 r2.root, .slice A2 hs2.length c2], box b3 24 [.int .i64 r2.root, .slice A2 hs2.length c2], box b2 28 [.int .i64 p1.key.pfs, .int .i64 p1.key.obj, .int .i64 p1.key.off, .int .i64 p1.made, .int .i64 p1.gone, .string p1.val], box b1 24 [.int .i64 p0.root, .slice A1 p0.nodes.length c1]]) (List.Perm.trans (List.Perm.swap _ _ _) (List.Perm.cons _ (List.Perm.trans (List.Perm.swap _ _ _) (List.Perm.refl _)))) (fun V7 hV7 hs3 hl2 => ?_)
   refine T.reslot 27 (.agg #[.int .i64 r2.root, .slice A2 l1.length c2]) rfl (by first | rfl | rw [hl2]) ?_
   refine T.reslot 28 (.agg #[.int .i64 r2.root, .slice A2 l1.length c2]) rfl (by first | rfl | rw [hl2]) ?_
   refine T.reslot 41 (.agg #[.int .i64 r2.root, .slice A2 l1.length c2]) rfl (by first | rfl | rw [hl2]) ?_
   refine T.reH (H' := [box b4 83 [.int .i64 r2.root, .slice A2 l1.length c2], box b3 24 [.int .i64 r2.root, .slice A2 l1.length c2], box b2 28 [.int .i64 p1.key.pfs, .int .i64 p1.key.obj, .int .i64 p1.key.off, .int .i64 p1.made, .int .i64 p1.gone, .string p1.val], box b1 24 [.int .i64 p0.root, .slice A1 p0.nodes.length c1]]) (by first | rfl | rw [hl2]) ?_
   cases hF
   refine T.ret rfl ?_
   exact T.ret2 rfl (ResIs.cellN 1 rfl (by rfl) (fun _ => by kernel_rfl) (fun _ => by kernel_rfl)) (ResIs.tmp rfl) fun w' hh => ⟨_, rfl, hh.below, (vT2.mk (vAg.mk ⟨_, _, rfl, (SlOk.mono hs3 (View.le_trans (made_mono (View.le_refl _)) (made_fresh hh)))⟩) (show _ from rfl))⟩

end Go.Proofs.Ytcmkdoahkncakaa
