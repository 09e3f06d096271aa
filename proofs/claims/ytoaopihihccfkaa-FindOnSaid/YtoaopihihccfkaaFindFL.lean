/- The Go functions of group FindF compute the pure functions of that group: written by walkgen.py. Condition of each: the pure function yields a result. -/
import Derived.Test.YtoaopihihccfkaaTreeL
import Derived.Test.YtoaopihihccfkaaRange
import Derived.Test.YtoaopihihccfkaaClear
import Derived.Test.YtoaopihihccfkaaFindFF
import Derived.Test.YtoaopihihccfkaaEqL
namespace Go.Proofs.Ytoaopihihccfkaa
set_option linter.unusedVariables false

set_option maxRecDepth 100000 in
set_option maxHeartbeats 4000000 in
theorem find_From_l (F : Nat) (p0 : DTree) (p1 : DSpot) (p2 : Int) (r : ((List DElem)) × Int) (hF : find_From F p0 p1 p2 = some r) (w : World) (A1 : Option Addr) (c1 : Nat) (hs1 : SlOk (vw w) eNode A1 c1 p0.nodes) :
    Calls Try.prog 20 #[.agg #[.int .i64 p0.root, .slice A1 p0.nodes.length c1], .agg #[.int .i64 p1.key.pfs, .int .i64 p1.key.obj, .int .i64 p1.key.off, .int .i64 p1.made], .int .i64 p2] w (Post (vT2 (vSc (eList eElem)) (vSc eInt)) r w) := by
 unfold find_From at hF
 refine T.startM (l := [.agg #[.int .i64 p0.root, .slice A1 p0.nodes.length c1], .agg #[.int .i64 p1.key.pfs, .int .i64 p1.key.obj, .int .i64 p1.key.off, .int .i64 p1.made], .int .i64 p2]) Try.func20 rfl rfl rfl ?_
 refine T.seq ?_
 refine T.region ?_
 refine T.step (W1.new 24 [.int .i64 p0.root, .slice A1 p0.nodes.length c1] (fun b => .pointer (some ⟨b, 0, none⟩)) (by kernel_rfl) (fun _ => by kernel_rfl) (fun b1 => ?_))
 refine T.step (W1.new 36 [.int .i64 p1.key.pfs, .int .i64 p1.key.obj, .int .i64 p1.key.off, .int .i64 p1.made] (fun b => .pointer (some ⟨b, 0, none⟩)) (by kernel_rfl) (fun _ => by kernel_rfl) (fun b2 => ?_))
 refine T.step (W1.new 3 [.int .i64 p2] (fun b => .pointer (some ⟨b, 0, none⟩)) (by kernel_rfl) (fun _ => by kernel_rfl) (fun b3 => ?_))
 refine T.pure (.slice none 0 0) (by kernel_rfl) (fun _ => by kernel_rfl) ?_
 refine T.pure (.int .i64 0) (by kernel_rfl) (fun _ => by kernel_rfl) ?_
 refine T.nil ?_
 refine T.seq ?_
 refine T.seq ?_
 refine T.region ?_
 refine T.look (.agg #[.int .i64 p0.root, .slice A1 p0.nodes.length c1]) (by kernel_rfl) (fun w' hh => exec_loadN (cs := [.int .i64 p0.root, .slice A1 p0.nodes.length c1]) rfl rfl (by kernel_rfl) (by kernel_rfl) (fun j u hj => (hh.box_at (i := 2) (cs := [.int .i64 p0.root, .slice A1 p0.nodes.length c1]) (by rfl) 0 j).trans (seg_at (n := 2) (by rfl) hj))) ?_
 obtain ⟨r1, hb1, hF⟩ := Option.bind_eq_some_iff.1 hF
 refine T.step (W1.call (vSc eInt) r1 22 #[.agg #[.int .i64 p0.root, .slice A1 p0.nodes.length c1]] (by kernel_rfl) (fun _ => by kernel_rfl) (fun w' hh => tree_Check_l F p0 r1 hb1 w' A1 c1 (SlOk.mono hs1 hh.view)) ?_)
 intro u V1 hV1 hu
 obtain rfl := sureInt _ _ _ hu
 refine T.pure (.int .i64 r1) (by kernel_rfl) (fun _ => by kernel_rfl) ?_
 refine T.nil ?_
 refine T.seq ?_
 refine T.region ?_
 refine T.pure (.int .i64 r1) (by kernel_rfl) (fun _ => by kernel_rfl) ?_
 refine T.pure (.bool (r1 != 0)) (by kernel_rfl) (fun _ => by kernel_rfl) ?_
 refine T.nil ?_
 refine T.cond (r1 != 0) (by kernel_rfl) (by kernel_rfl) (fun hc1 => ?_) (fun hc1 => ?_)
 ·
  rw [hc1, cond_true] at hF
  refine T.seq ?_
  refine T.region ?_
  refine T.pure (.int .i64 r1) (by kernel_rfl) (fun _ => by kernel_rfl) ?_
  refine T.pure (.slice none 0 0) (by kernel_rfl) (fun _ => by kernel_rfl) ?_
  refine T.pure (.int .i64 r1) (by kernel_rfl) (fun _ => by kernel_rfl) ?_
  refine T.nil ?_
  cases hF
  refine T.ret rfl ?_
  refine T.leaveM [box b3 3 [.int .i64 p2], box b2 36 [.int .i64 p1.key.pfs, .int .i64 p1.key.obj, .int .i64 p1.key.off, .int .i64 p1.made], box b1 24 [.int .i64 p0.root, .slice A1 p0.nodes.length c1]] [] (fun w' hh => hh.sub (.cons_cons _ (.cons_cons _ (.cons_cons _ List.Sublist.slnil)))) ?_
  exact T.ret2 rfl (ResIs.tmp rfl) (ResIs.tmp rfl) fun w' hh => ⟨_, rfl, hh.below, (vT2.mk ⟨_, _, rfl, (SlOk.nil _ _)⟩ (show _ from rfl))⟩
 ·
  rw [hc1, cond_false] at hF
  refine T.skip_code ?_
  refine T.seq ?_
  refine T.seq ?_
  refine T.region ?_
  refine T.look (.int .i64 p2) (by kernel_rfl) (fun w' hh => exec_load1 rfl rfl (by kernel_rfl) (hh.cellBox (i := 0) (by rfl) 0)) ?_
  refine T.pure (.bool (decide (p2 < 0))) (by kernel_rfl) (fun _ => by kernel_rfl) ?_
  refine T.nil ?_
  refine T.cond (decide (p2 < 0)) (by kernel_rfl) (by kernel_rfl) (fun hc2 => ?_) (fun hc2 => ?_)
  ·
   rw [hc2, cond_true] at hF
   refine T.seq ?_
   refine T.region ?_
   refine T.pure (.slice none 0 0) (by kernel_rfl) (fun _ => by kernel_rfl) ?_
   refine T.pure (.int .i64 1) (by kernel_rfl) (fun _ => by kernel_rfl) ?_
   refine T.nil ?_
   cases hF
   refine T.ret rfl ?_
   refine T.leaveM [box b3 3 [.int .i64 p2], box b2 36 [.int .i64 p1.key.pfs, .int .i64 p1.key.obj, .int .i64 p1.key.off, .int .i64 p1.made], box b1 24 [.int .i64 p0.root, .slice A1 p0.nodes.length c1]] [] (fun w' hh => hh.sub (.cons_cons _ (.cons_cons _ (.cons_cons _ List.Sublist.slnil)))) ?_
   exact T.ret2 rfl (ResIs.tmp rfl) (ResIs.tmp rfl) fun w' hh => ⟨_, rfl, hh.below, (vT2.mk ⟨_, _, rfl, (SlOk.nil _ _)⟩ (show _ from rfl))⟩
  ·
   rw [hc2, cond_false] at hF
   refine T.skip_code ?_
   refine T.seq ?_
   refine T.region ?_
   refine T.step (W1.new 29 [.slice none 0 0] (fun b => .pointer (some ⟨b, 0, none⟩)) (by kernel_rfl) (fun _ => by kernel_rfl) (fun b4 => ?_))
   refine T.nil ?_
   obtain ⟨z1, hX1, hF⟩ := Option.bind_eq_some_iff.1 hF
   refine T.cut (fun a w' => ∃ (A2 : Option Addr) (c2 : Nat) (d1 : Nat) (V2 : View), View.le V1 V2 ∧ Fr ⟨31, [d1]⟩ [(9, .pointer (some ⟨b4, 0, none⟩))] a ∧ Hp w V2 [row 39 eElem A2 c2 z1, marko d1, box b4 29 [.slice A2 z1.length c2]] w') ?_ ?_
   ·
    refine T.seq ?_
    refine T.region ?_
    refine T.look (.agg #[.int .i64 p0.root, .slice A1 p0.nodes.length c1]) (by kernel_rfl) (fun w' hh => exec_loadN (cs := [.int .i64 p0.root, .slice A1 p0.nodes.length c1]) rfl rfl (by kernel_rfl) (by kernel_rfl) (fun j u hj => (hh.box_at (i := 3) (cs := [.int .i64 p0.root, .slice A1 p0.nodes.length c1]) (by rfl) 0 j).trans (seg_at (n := 2) (by rfl) hj))) ?_
    refine T.look (.agg #[.int .i64 p1.key.pfs, .int .i64 p1.key.obj, .int .i64 p1.key.off, .int .i64 p1.made]) (by kernel_rfl) (fun w' hh => exec_loadN (cs := [.int .i64 p1.key.pfs, .int .i64 p1.key.obj, .int .i64 p1.key.off, .int .i64 p1.made]) rfl rfl (by kernel_rfl) (by kernel_rfl) (fun j u hj => (hh.box_at (i := 2) (cs := [.int .i64 p1.key.pfs, .int .i64 p1.key.obj, .int .i64 p1.key.off, .int .i64 p1.made]) (by rfl) 0 j).trans (seg_at (n := 4) (by rfl) hj))) ?_
    refine T.step (W1.within 44 [.agg #[.int .i64 p0.root, .slice A1 p0.nodes.length c1], .agg #[.int .i64 p1.key.pfs, .int .i64 p1.key.obj, .int .i64 p1.key.off, .int .i64 p1.made]] (fun v w' => ∃ (b6 : Nat) (b5 : Nat), v = .func (.func 56) #[] #[.pointer (some ⟨b5, 0, none⟩), .pointer (some ⟨b6, 0, none⟩)] ∧ Hp w V1 [box b6 36 [.int .i64 p1.key.pfs, .int .i64 p1.key.obj, .int .i64 p1.key.off, .int .i64 p1.made], box b5 24 [.int .i64 p0.root, .slice A1 p0.nodes.length c1], box b4 29 [.slice none 0 0], box b3 3 [.int .i64 p2], box b2 36 [.int .i64 p1.key.pfs, .int .i64 p1.key.obj, .int .i64 p1.key.off, .int .i64 p1.made], box b1 24 [.int .i64 p0.root, .slice A1 p0.nodes.length c1]] w') Try.func44 rfl rfl (by kernel_rfl) (fun _ => by kernel_rfl) rfl ?_ ?_)
    ·
     refine T.seq ?_
     refine T.region ?_
     refine T.step (W1.new 24 [.int .i64 p0.root, .slice A1 p0.nodes.length c1] (fun b => .pointer (some ⟨b, 0, none⟩)) (by kernel_rfl) (fun _ => by kernel_rfl) (fun b5 => ?_))
     refine T.step (W1.new 36 [.int .i64 p1.key.pfs, .int .i64 p1.key.obj, .int .i64 p1.key.off, .int .i64 p1.made] (fun b => .pointer (some ⟨b, 0, none⟩)) (by kernel_rfl) (fun _ => by kernel_rfl) (fun b6 => ?_))
     refine T.pure (.nilFunc) (by kernel_rfl) (fun _ => by kernel_rfl) ?_
     refine T.nil ?_
     refine T.seq ?_
     refine T.region ?_
     refine T.pure (.func (.func 56) #[] #[.pointer (some ⟨b5, 0, none⟩), .pointer (some ⟨b6, 0, none⟩)]) (by kernel_rfl) (fun _ => by kernel_rfl) ?_
     refine T.pure (.func (.func 56) #[] #[.pointer (some ⟨b5, 0, none⟩), .pointer (some ⟨b6, 0, none⟩)]) (by kernel_rfl) (fun _ => by kernel_rfl) ?_
     refine T.nil ?_
     refine T.ret rfl ?_
     exact T.ret1 rfl (ResIs.tmp rfl) fun w' hh => ⟨_, rfl, Exists.intro b6 (Exists.intro b5 (And.intro rfl (hh.sub (.cons_cons _ (.cons_cons _ (.cons_cons _ (.cons_cons _ (.cons_cons _ (.cons_cons _ List.Sublist.slnil)))))))))⟩
    ·
     rintro v w' ⟨b6, b5, rfl, hh⟩
     refine ⟨V1, [box b6 36 [.int .i64 p1.key.pfs, .int .i64 p1.key.obj, .int .i64 p1.key.off, .int .i64 p1.made], box b5 24 [.int .i64 p0.root, .slice A1 p0.nodes.length c1], box b4 29 [.slice none 0 0], box b3 3 [.int .i64 p2], box b2 36 [.int .i64 p1.key.pfs, .int .i64 p1.key.obj, .int .i64 p1.key.off, .int .i64 p1.made], box b1 24 [.int .i64 p0.root, .slice A1 p0.nodes.length c1]], hh, ?_⟩
     clear hh
     refine T.nil ?_
     refine T.block ?_
     obtain ⟨q1, hX2, hX1⟩ := Option.bind_eq_some_iff.1 hX1
     refine T.range (gf := 56) (lb := [.pointer (some ⟨b5, 0, none⟩), .pointer (some ⟨b6, 0, none⟩)]) (.exit 0) [] (fun l1 d1 lr1 w' => ∃ (z2 : List DElem) (k1 : Nat), q1 = (z2, k1) ∧ ∃ (A3 : Option Addr) (c3 : Nat) (V3 : View), View.le V1 V3 ∧ Hp w V3 [loopo l1 lr1 (.exit 0) [] k1, row 39 eElem A3 c3 z2, marko d1, box b4 29 [.slice A3 z2.length c3]] w') (by kernel_rfl) (by kernel_rfl) (fun _ _ => by kernel_rfl) ?_ ?_
     ·
      intro l1 d1 lr1 hl1 hl2 hl3 hl4 w1 hh
      refine T.startI (l := [.func (.yield l1) #[] #[], .pointer (some ⟨b5, 0, none⟩), .pointer (some ⟨b6, 0, none⟩)]) Try.func56 rfl rfl rfl ?_ hh
      clear hh
      refine T.region ?_
      refine T.look (.agg #[.int .i64 p0.root, .slice A1 p0.nodes.length c1]) (by kernel_rfl) (fun w' hh => exec_loadN (cs := [.int .i64 p0.root, .slice A1 p0.nodes.length c1]) rfl rfl (by kernel_rfl) (by kernel_rfl) (fun j u hj => (hh.box_at (i := 3) (cs := [.int .i64 p0.root, .slice A1 p0.nodes.length c1]) (by rfl) 0 j).trans (seg_at (n := 2) (by rfl) hj))) ?_
      refine T.pure (.pointer (some ⟨b5, 0, none⟩)) (by kernel_rfl) (fun _ => by kernel_rfl) ?_
      refine T.look (.int .i64 p0.root) (by kernel_rfl) (fun w' hh => exec_load1 rfl rfl (by kernel_rfl) (hh.cellBox (i := 3) (by rfl) 0)) ?_
      refine T.look (.agg #[.int .i64 p1.key.pfs, .int .i64 p1.key.obj, .int .i64 p1.key.off, .int .i64 p1.made]) (by kernel_rfl) (fun w' hh => exec_loadN (cs := [.int .i64 p1.key.pfs, .int .i64 p1.key.obj, .int .i64 p1.key.off, .int .i64 p1.made]) rfl rfl (by kernel_rfl) (by kernel_rfl) (fun j u hj => (hh.box_at (i := 2) (cs := [.int .i64 p1.key.pfs, .int .i64 p1.key.obj, .int .i64 p1.key.off, .int .i64 p1.made]) (by rfl) 0 j).trans (seg_at (n := 4) (by rfl) hj))) ?_
      refine T.pure (.func (.yield l1) #[] #[]) (by kernel_rfl) (fun _ => by kernel_rfl) ?_
      refine T.rownil 39 eElem ?_
      obtain ⟨q2, hz1, hX2⟩ := Option.bind_eq_some_iff.1 hX2
      refine (have hq1 := fix_rec (fun (s_ : (List DElem) × Int) (r_ : (List DElem) × Nat) => ∀ (x1 : List DElem) (x2 : Int), s_ = (x1, x2) → ∀ (A4 : Option Addr) (c4 : Nat) (V4 : View) (G2 : List HObj) (w1 : World), View.le V1 V4 → Hp w V4 ((row 39 eElem A4 c4 x1) :: (loopo l1 lr1 (.exit 0) [] 0) :: (marko d1) :: (box b4 29 [.slice A4 x1.length c4]) :: (box b3 3 [.int .i64 p2]) :: G2) w1 → Calls Try.prog 57 #[.agg #[.int .i64 p0.root, .slice A1 p0.nodes.length c1], .int .i64 x2, .agg #[.int .i64 p1.key.pfs, .int .i64 p1.key.obj, .int .i64 p1.key.off, .int .i64 p1.made], .func (.yield l1) #[] #[]] w1 (fun e w2 => ∃ v, e = .returned v ∧ ∃ (z3 : List DElem) (k2 : Nat), r_ = (z3, k2) ∧ ∃ (A5 : Option Addr) (c5 : Nat) (V5 : View), View.le V4 V5 ∧ v = .bool (isz k2) ∧ Hp w V5 ((row 39 eElem A5 c5 z3) :: (loopo l1 lr1 (.exit 0) [] k2) :: (marko d1) :: (box b4 29 [.slice A5 z3.length c5]) :: (box b3 3 [.int .i64 p2]) :: G2) w2)) hz1 ?_; ?_)
      ·
       rintro rf2 ih1 s_ r_ hS1 x1 x2 rfl A4 c4 V4 G2 w1 hV4 hh
       try dsimp only at hS1
       refine T.startI (l := [.agg #[.int .i64 p0.root, .slice A1 p0.nodes.length c1], .int .i64 x2, .agg #[.int .i64 p1.key.pfs, .int .i64 p1.key.obj, .int .i64 p1.key.off, .int .i64 p1.made], .func (.yield l1) #[] #[]]) Try.func57 rfl rfl rfl ?_ hh
       clear hh
       refine T.seq ?_
       refine T.region ?_
       refine T.step (W1.new 24 [.int .i64 p0.root, .slice A1 p0.nodes.length c1] (fun b => .pointer (some ⟨b, 0, none⟩)) (by kernel_rfl) (fun _ => by kernel_rfl) (fun b7 => ?_))
       refine T.step (W1.new 36 [.int .i64 p1.key.pfs, .int .i64 p1.key.obj, .int .i64 p1.key.off, .int .i64 p1.made] (fun b => .pointer (some ⟨b, 0, none⟩)) (by kernel_rfl) (fun _ => by kernel_rfl) (fun b8 => ?_))
       refine T.pure (.bool false) (by kernel_rfl) (fun _ => by kernel_rfl) ?_
       refine T.nil ?_
       refine T.seq ?_
       refine T.region ?_
       refine T.pure (.pointer (some ⟨b7, 1, none⟩)) (by kernel_rfl) (fun _ => by kernel_rfl) ?_
       refine T.look (.slice A1 p0.nodes.length c1) (by kernel_rfl) (fun w' hh => exec_load1 rfl rfl (by kernel_rfl) (hh.cellBox (i := 1) (by rfl) 1)) ?_
       refine T.pure (.int .i64 x2) (by kernel_rfl) (fun _ => by kernel_rfl) ?_
       obtain ⟨e1, hb2, hS1⟩ := Option.bind_eq_some_iff.1 hS1
       obtain ⟨hi1, hi2, hi3⟩ := idx_some hb2
       obtain ⟨cs1, hr1, hc3⟩ := SlOk.elem (SlOk.mono hs1 (View.le_trans hV1 hV4)) hi3
       obtain ⟨A6, c6, A7, c7, A8, c8, A9, c9, rfl, hs2, hs3, hs4, hs5⟩ := hr1
       refine T.look (.pointer (some ((sadr A1).add (x2.toNat * 5)))) (by kernel_rfl) (fun w' hh => exec_indexAddr (e := 57) (s := 5) rfl rfl rfl (by kernel_rfl) (by kernel_rfl) hi1 hi2 ((SlOk.mono hs1 (View.le_trans hV1 hV4)).some_ hi3 (by decide))) ?_
       refine T.look (.agg #[.int .i64 e1.kind, .slice A6 e1.elems.length c6, .slice A7 e1.kids.length c7, .slice A8 e1.seps.length c8, .slice A9 e1.tids.length c9]) (by kernel_rfl) (fun w' hh => exec_loadN (cs := [.int .i64 e1.kind, .slice A6 e1.elems.length c6, .slice A7 e1.kids.length c7, .slice A8 e1.seps.length c8, .slice A9 e1.tids.length c9]) rfl rfl (by kernel_rfl) (by kernel_rfl) (fun j u hj => hh.cell_view (View.cell_mono (View.le_refl _) (hc3 j u hj).2))) ?_
       refine T.step (W1.new 57 [.int .i64 0, .slice none 0 0, .slice none 0 0, .slice none 0 0, .slice none 0 0] (fun b => .pointer (some ⟨b, 0, none⟩)) (by kernel_rfl) (fun _ => by kernel_rfl) (fun b9 => ?_))
       refine T.step (W1.store 0 [.int .i64 e1.kind, .slice A6 e1.elems.length c6, .slice A7 e1.kids.length c7, .slice A8 e1.seps.length c8, .slice A9 e1.tids.length c9] ((box b9 57 [.int .i64 e1.kind, .slice A6 e1.elems.length c6, .slice A7 e1.kids.length c7, .slice A8 e1.seps.length c8, .slice A9 e1.tids.length c9]) :: (box b8 36 [.int .i64 p1.key.pfs, .int .i64 p1.key.obj, .int .i64 p1.key.off, .int .i64 p1.made]) :: (box b7 24 [.int .i64 p0.root, .slice A1 p0.nodes.length c1]) :: (row 39 eElem A4 c4 x1) :: (loopo l1 lr1 (.exit 0) [] 0) :: (marko d1) :: (box b4 29 [.slice A4 x1.length c4]) :: (box b3 3 [.int .i64 p2]) :: G2) (by rfl) rfl (by kernel_rfl) (fun w' hw => exec_store (vs := [.int .i64 e1.kind, .slice A6 e1.elems.length c6, .slice A7 e1.kids.length c7, .slice A8 e1.seps.length c8, .slice A9 e1.tids.length c9]) rfl rfl rfl rfl (by kernel_rfl) (one_of rfl) (by simp) rfl hw) ?_)
       refine T.nil ?_
       refine T.seq ?_
       refine T.seq ?_
       refine T.region ?_
       refine T.pure (.pointer (some ⟨b9, 1, none⟩)) (by kernel_rfl) (fun _ => by kernel_rfl) ?_
       refine T.look (.slice A6 e1.elems.length c6) (by kernel_rfl) (fun w' hh => exec_load1 rfl rfl (by kernel_rfl) (hh.cellBox (i := 0) (by rfl) 1)) ?_
       refine T.pure (.int .i64 (e1.elems.length : Int)) (by kernel_rfl) (fun _ => by kernel_rfl) ?_
       refine T.pure (.int .i64 0) (by kernel_rfl) (fun _ => by kernel_rfl) ?_
       refine T.nil ?_
       obtain ⟨q3, hz2, hS1⟩ := Option.bind_eq_some_iff.1 hS1
       refine T.mid (fun a w' => ∃ (z4 : List DElem), q3 = Sum.inl z4 ∧ ∃ (A11 : Option Addr) (c11 : Nat) (V7 : View), View.le V4 V7 ∧ Fr 59 [(3, .func (.yield l1) #[] #[]), (4, .pointer (some ⟨b7, 0, none⟩)), (6, .pointer (some ⟨b8, 0, none⟩)), (9, .pointer (some ⟨b9, 0, none⟩))] a ∧ Hp w V7 ((box b9 57 [.int .i64 e1.kind, .slice A6 e1.elems.length c6, .slice A7 e1.kids.length c7, .slice A8 e1.seps.length c8, .slice A9 e1.tids.length c9]) :: (box b8 36 [.int .i64 p1.key.pfs, .int .i64 p1.key.obj, .int .i64 p1.key.off, .int .i64 p1.made]) :: (box b7 24 [.int .i64 p0.root, .slice A1 p0.nodes.length c1]) :: (row 39 eElem A11 c11 z4) :: (loopo l1 lr1 (.exit 0) [] 0) :: (marko d1) :: (box b4 29 [.slice A11 z4.length c11]) :: (box b3 3 [.int .i64 p2]) :: G2) w') ?_ ?_
       ·
        refine T.block ?_
        refine T.iter (fun s1 a w' => ∃ (x3 : List DElem) (x4 : Int), s1 = (x3, x4) ∧ ∃ (A10 : Option Addr) (c10 : Nat) (V6 : View), View.le V4 V6 ∧ Fr 59 [(3, .func (.yield l1) #[] #[]), (4, .pointer (some ⟨b7, 0, none⟩)), (6, .pointer (some ⟨b8, 0, none⟩)), (9, .pointer (some ⟨b9, 0, none⟩)), (20, .slice A6 e1.elems.length c6), (21, .int .i64 (e1.elems.length : Int)), (22, .int .i64 x4)] a ∧ Hp w V6 ((box b9 57 [.int .i64 e1.kind, .slice A6 e1.elems.length c6, .slice A7 e1.kids.length c7, .slice A8 e1.seps.length c8, .slice A9 e1.tids.length c9]) :: (box b8 36 [.int .i64 p1.key.pfs, .int .i64 p1.key.obj, .int .i64 p1.key.off, .int .i64 p1.made]) :: (box b7 24 [.int .i64 p0.root, .slice A1 p0.nodes.length c1]) :: (row 39 eElem A10 c10 x3) :: (loopo l1 lr1 (.exit 0) [] 0) :: (marko d1) :: (box b4 29 [.slice A10 x3.length c10]) :: (box b3 3 [.int .i64 p2]) :: G2) w') hz2 ?_ ?_
        ·
         exact fun a w' hf hh => Exists.intro x1 (Exists.intro 0 (And.intro rfl (Exists.intro A4 (Exists.intro c4 (Exists.intro V4 (And.intro (View.le_refl _) (And.intro ((((((((Fr.nil hf).pick hf 22 rfl).pick hf 21 rfl).pick hf 20 rfl).pick hf 9 rfl).pick hf 6 rfl).pick hf 4 rfl).pick hf 3 rfl) (hh.sub (.cons_cons _ (.cons_cons _ (.cons_cons _ (.cons_cons _ (.cons_cons _ (.cons_cons _ (.cons_cons _ (.cons_cons _ (List.Sublist.refl _)))))))))))))))))
        ·
         rintro s1 y1 hY1 hr2 a w' ⟨x3, x4, rfl, A10, c10, V6, hV6, hf, hh⟩
         refine (?_ : T 59 w V6 ((box b9 57 [.int .i64 e1.kind, .slice A6 e1.elems.length c6, .slice A7 e1.kids.length c7, .slice A8 e1.seps.length c8, .slice A9 e1.tids.length c9]) :: (box b8 36 [.int .i64 p1.key.pfs, .int .i64 p1.key.obj, .int .i64 p1.key.off, .int .i64 p1.made]) :: (box b7 24 [.int .i64 p0.root, .slice A1 p0.nodes.length c1]) :: (row 39 eElem A10 c10 x3) :: (loopo l1 lr1 (.exit 0) [] 0) :: (marko d1) :: (box b4 29 [.slice A10 x3.length c10]) :: (box b3 3 [.int .i64 p2]) :: G2) [(3, .func (.yield l1) #[] #[]), (4, .pointer (some ⟨b7, 0, none⟩)), (6, .pointer (some ⟨b8, 0, none⟩)), (9, .pointer (some ⟨b9, 0, none⟩)), (20, .slice A6 e1.elems.length c6), (21, .int .i64 (e1.elems.length : Int)), (22, .int .i64 x4)] _) a w' hf hh
         clear hf hh
         try dsimp only at hY1
         refine T.seq ?_
         refine T.region ?_
         refine T.pure (.bool (decide (x4 < (e1.elems.length : Int)))) (by kernel_rfl) (fun _ => by kernel_rfl) ?_
         refine T.nil ?_
         refine T.seq ?_
         refine T.cond (decide (x4 < (e1.elems.length : Int))) (by kernel_rfl) (by kernel_rfl) (fun hc4 => ?_) (fun hc4 => ?_)
         ·
          rw [hc4, cond_true] at hY1
          refine T.skip_code ?_
          refine T.seq ?_
          refine T.block ?_
          refine T.seq ?_
          refine T.region ?_
          obtain ⟨e2, hb3, hY1⟩ := Option.bind_eq_some_iff.1 hY1
          obtain ⟨hi4, hi5, hi6⟩ := idx_some hb3
          refine T.look (.pointer (some ((sadr A6).add (x4.toNat * 6)))) (by kernel_rfl) (fun w' hh => exec_indexAddr (e := 39) (s := 6) rfl rfl rfl (by kernel_rfl) (by kernel_rfl) hi4 hi5 ((SlOk.mono hs2 hV6).some_ hi6 (by decide))) ?_
          refine T.look (.agg #[.int .i64 e2.key.pfs, .int .i64 e2.key.obj, .int .i64 e2.key.off, .int .i64 e2.made, .int .i64 e2.gone, .string e2.val]) (by kernel_rfl) (fun w' hh => exec_loadN (cs := [.int .i64 e2.key.pfs, .int .i64 e2.key.obj, .int .i64 e2.key.off, .int .i64 e2.made, .int .i64 e2.gone, .string e2.val]) rfl rfl (by kernel_rfl) (by kernel_rfl) (fun j u hj => (hh.cell_view (SlOk.cellF (E := eElem) (SlOk.mono hs2 hV6) hi6 j (fun _ _ _ h => h) hj)))) ?_
          refine T.step (W1.new 39 [.int .i64 0, .int .i64 0, .int .i64 0, .int .i64 0, .int .i64 0, .string (ByteArray.mk #[])] (fun b => .pointer (some ⟨b, 0, none⟩)) (by kernel_rfl) (fun _ => by kernel_rfl) (fun b10 => ?_))
          refine T.step (W1.store 0 [.int .i64 e2.key.pfs, .int .i64 e2.key.obj, .int .i64 e2.key.off, .int .i64 e2.made, .int .i64 e2.gone, .string e2.val] ((box b10 39 [.int .i64 e2.key.pfs, .int .i64 e2.key.obj, .int .i64 e2.key.off, .int .i64 e2.made, .int .i64 e2.gone, .string e2.val]) :: (box b9 57 [.int .i64 e1.kind, .slice A6 e1.elems.length c6, .slice A7 e1.kids.length c7, .slice A8 e1.seps.length c8, .slice A9 e1.tids.length c9]) :: (box b8 36 [.int .i64 p1.key.pfs, .int .i64 p1.key.obj, .int .i64 p1.key.off, .int .i64 p1.made]) :: (box b7 24 [.int .i64 p0.root, .slice A1 p0.nodes.length c1]) :: (row 39 eElem A10 c10 x3) :: (loopo l1 lr1 (.exit 0) [] 0) :: (marko d1) :: (box b4 29 [.slice A10 x3.length c10]) :: (box b3 3 [.int .i64 p2]) :: G2) (by rfl) rfl (by kernel_rfl) (fun w' hw => exec_store (vs := [.int .i64 e2.key.pfs, .int .i64 e2.key.obj, .int .i64 e2.key.off, .int .i64 e2.made, .int .i64 e2.gone, .string e2.val]) rfl rfl rfl rfl (by kernel_rfl) (one_of rfl) (by simp) rfl hw) ?_)
          refine T.nil ?_
          obtain ⟨q4, hX3, hY1⟩ := Option.bind_eq_some_iff.1 hY1
          refine T.cut (fun a w' => ∃ (z5 : List DElem) (k3 : Nat), q4 = (z5, k3) ∧ ∃ (A12 : Option Addr) (c12 : Nat) (V8 : View), View.le V6 V8 ∧ Fr 59 [(3, .func (.yield l1) #[] #[]), (4, .pointer (some ⟨b7, 0, none⟩)), (6, .pointer (some ⟨b8, 0, none⟩)), (9, .pointer (some ⟨b9, 0, none⟩)), (20, .slice A6 e1.elems.length c6), (21, .int .i64 (e1.elems.length : Int)), (22, .int .i64 x4), (36, .bool (!(isz k3)))] a ∧ Hp w V8 ((box b9 57 [.int .i64 e1.kind, .slice A6 e1.elems.length c6, .slice A7 e1.kids.length c7, .slice A8 e1.seps.length c8, .slice A9 e1.tids.length c9]) :: (box b8 36 [.int .i64 p1.key.pfs, .int .i64 p1.key.obj, .int .i64 p1.key.off, .int .i64 p1.made]) :: (box b7 24 [.int .i64 p0.root, .slice A1 p0.nodes.length c1]) :: (row 39 eElem A12 c12 z5) :: (loopo l1 lr1 (.exit 0) [] k3) :: (marko d1) :: (box b4 29 [.slice A12 z5.length c12]) :: (box b3 3 [.int .i64 p2]) :: G2) w') ?_ ?_
          ·
           refine T.anyI (by kernel_rfl) ?_
           refine TI.all [0, 2] (by kernel_rfl) rfl ⟨?_, ?_, trivial⟩
           ·
            refine TI.br rfl (W1.toR (W1.look (.agg #[.int .i64 e2.key.pfs, .int .i64 e2.key.obj, .int .i64 e2.key.off, .int .i64 e2.made, .int .i64 e2.gone, .string e2.val]) (by kernel_rfl) (fun w' hh => exec_loadN (cs := [.int .i64 e2.key.pfs, .int .i64 e2.key.obj, .int .i64 e2.key.off, .int .i64 e2.made, .int .i64 e2.gone, .string e2.val]) rfl rfl (by kernel_rfl) (by kernel_rfl) (fun j u hj => (hh.box_at (i := 0) (cs := [.int .i64 e2.key.pfs, .int .i64 e2.key.obj, .int .i64 e2.key.off, .int .i64 e2.made, .int .i64 e2.gone, .string e2.val]) (by rfl) 0 j).trans (seg_at (n := 6) (by rfl) hj))) ?_))
            refine TI.all [1, 2] (by kernel_rfl) rfl ⟨?_, ?_, trivial⟩
            ·
             obtain ⟨r3, hb4, hX3⟩ := Option.bind_eq_some_iff.1 hX3
             refine TI.br rfl <| W1.toR (W1.call (vAg eSpot) r3 15 #[.agg #[.int .i64 e2.key.pfs, .int .i64 e2.key.obj, .int .i64 e2.key.off, .int .i64 e2.made, .int .i64 e2.gone, .string e2.val]] (by kernel_rfl) (fun _ => by kernel_rfl) (fun w' hh => elem_Spot_l e2 r3 hb4 w' ) ?_)
             intro u V9 hV9 hu
             obtain rfl := sureSpot _ _ _ hu
             refine TI.all [2] (by kernel_rfl) rfl ⟨?_, trivial⟩
             refine TI.br rfl (W1.toR (W1.look (.agg #[.int .i64 p1.key.pfs, .int .i64 p1.key.obj, .int .i64 p1.key.off, .int .i64 p1.made]) (by kernel_rfl) (fun w' hh => exec_loadN (cs := [.int .i64 p1.key.pfs, .int .i64 p1.key.obj, .int .i64 p1.key.off, .int .i64 p1.made]) rfl rfl (by kernel_rfl) (by kernel_rfl) (fun j u hj => (hh.box_at (i := 2) (cs := [.int .i64 p1.key.pfs, .int .i64 p1.key.obj, .int .i64 p1.key.off, .int .i64 p1.made]) (by rfl) 0 j).trans (seg_at (n := 4) (by rfl) hj))) ?_))
             refine TI.all [3] (by kernel_rfl) rfl ⟨?_, trivial⟩
             obtain ⟨r4, hb5, hX3⟩ := Option.bind_eq_some_iff.1 hX3
             refine TI.br rfl <| W1.toR (W1.call (vSc eInt) r4 14 #[.agg #[.int .i64 r3.key.pfs, .int .i64 r3.key.obj, .int .i64 r3.key.off, .int .i64 r3.made], .agg #[.int .i64 p1.key.pfs, .int .i64 p1.key.obj, .int .i64 p1.key.off, .int .i64 p1.made]] (by kernel_rfl) (fun _ => by kernel_rfl) (fun w' hh => key_CmpSpot_l r3 p1 r4 hb5 w' ) ?_)
             intro u V10 hV10 hu
             obtain rfl := sureInt _ _ _ hu
             refine TI.all [4] (by kernel_rfl) rfl ⟨?_, trivial⟩
             refine TI.br rfl (W1.toR (W1.look (.bool (decide ((0 : Int) ≤ r4))) (by kernel_rfl) (fun _ _ => by kernel_rfl) ?_))
             refine TI.all [5] (by kernel_rfl) rfl ⟨?_, trivial⟩
             refine TI.br rfl (W1.toR (W1.look (.bool (decide ((0 : Int) ≤ r4))) (by kernel_rfl) (fun _ _ => by kernel_rfl) ?_))
             cases hg1 : decide ((0 : Int) ≤ r4)
             ·
              rw [hg1, cond_false] at hX3
              refine TI.all [6, 7] (by kernel_rfl) rfl ⟨?_, ?_, trivial⟩
              ·
               refine TI.no rfl (by kernel_rfl) (by kernel_rfl) ?_
               refine TI.all [7] (by kernel_rfl) rfl ⟨?_, trivial⟩
               refine TI.no rfl (by kernel_rfl) (by kernel_rfl) ?_
               refine TI.all [8] (by kernel_rfl) rfl ⟨?_, trivial⟩
               refine TI.no rfl (by kernel_rfl) (by kernel_rfl) ?_
               refine TI.all [9] (by kernel_rfl) rfl ⟨?_, trivial⟩
               refine TI.no rfl (by kernel_rfl) (by kernel_rfl) ?_
               refine TI.all [10] (by kernel_rfl) rfl ⟨?_, trivial⟩
               refine TI.br rfl (W1.toR (W1.look (.bool false) (by kernel_rfl) (fun _ _ => by kernel_rfl) ?_))
               refine TI.done (by kernel_rfl) ?_
               cases hX3
               exact fun a w' hf hh => Exists.intro x3 (Exists.intro 0 (And.intro rfl (Exists.intro A10 (Exists.intro c10 (Exists.intro V10 (And.intro (View.le_trans hV9 hV10) (And.intro (((((((((Fr.nil hf).pick hf 36 rfl).pick hf 22 rfl).pick hf 21 rfl).pick hf 20 rfl).pick hf 9 rfl).pick hf 6 rfl).pick hf 4 rfl).pick hf 3 rfl) (hh.sub (.cons _ (.cons_cons _ (.cons_cons _ (.cons_cons _ (.cons_cons _ (.cons_cons _ (.cons_cons _ (.cons_cons _ (.cons_cons _ (List.Sublist.refl _))))))))))))))))))
              ·
               refine TI.no rfl (by kernel_rfl) (by kernel_rfl) ?_
               refine TI.all [6] (by kernel_rfl) rfl ⟨?_, trivial⟩
               refine TI.no rfl (by kernel_rfl) (by kernel_rfl) ?_
               refine TI.all [8] (by kernel_rfl) rfl ⟨?_, trivial⟩
               refine TI.no rfl (by kernel_rfl) (by kernel_rfl) ?_
               refine TI.all [9] (by kernel_rfl) rfl ⟨?_, trivial⟩
               refine TI.no rfl (by kernel_rfl) (by kernel_rfl) ?_
               refine TI.all [10] (by kernel_rfl) rfl ⟨?_, trivial⟩
               refine TI.br rfl (W1.toR (W1.look (.bool false) (by kernel_rfl) (fun _ _ => by kernel_rfl) ?_))
               refine TI.done (by kernel_rfl) ?_
               cases hX3
               exact fun a w' hf hh => Exists.intro x3 (Exists.intro 0 (And.intro rfl (Exists.intro A10 (Exists.intro c10 (Exists.intro V10 (And.intro (View.le_trans hV9 hV10) (And.intro (((((((((Fr.nil hf).pick hf 36 rfl).pick hf 22 rfl).pick hf 21 rfl).pick hf 20 rfl).pick hf 9 rfl).pick hf 6 rfl).pick hf 4 rfl).pick hf 3 rfl) (hh.sub (.cons _ (.cons_cons _ (.cons_cons _ (.cons_cons _ (.cons_cons _ (.cons_cons _ (.cons_cons _ (.cons_cons _ (.cons_cons _ (List.Sublist.refl _))))))))))))))))))
             ·
              rw [hg1, cond_true] at hX3
              refine TI.all [6, 7] (by kernel_rfl) rfl ⟨?_, ?_, trivial⟩
              ·
               refine TI.br rfl (W1.toR (W1.look (.func (.yield l1) #[] #[]) (by kernel_rfl) (fun _ _ => by kernel_rfl) ?_))
               refine TI.all [7] (by kernel_rfl) rfl ⟨?_, trivial⟩
               refine TI.br rfl (W1.toR (W1.look (.agg #[.int .i64 e2.key.pfs, .int .i64 e2.key.obj, .int .i64 e2.key.off, .int .i64 e2.made, .int .i64 e2.gone, .string e2.val]) (by kernel_rfl) (fun w' hh => exec_loadN (cs := [.int .i64 e2.key.pfs, .int .i64 e2.key.obj, .int .i64 e2.key.off, .int .i64 e2.made, .int .i64 e2.gone, .string e2.val]) rfl rfl (by kernel_rfl) (by kernel_rfl) (fun j u hj => (hh.box_at (i := 0) (cs := [.int .i64 e2.key.pfs, .int .i64 e2.key.obj, .int .i64 e2.key.off, .int .i64 e2.made, .int .i64 e2.gone, .string e2.val]) (by rfl) 0 j).trans (seg_at (n := 6) (by rfl) hj))) ?_))
               refine TI.all [8] (by kernel_rfl) rfl ⟨?_, trivial⟩
               obtain ⟨q5, hX4, hX3⟩ := Option.bind_eq_some_iff.1 hX3
               refine TI.br rfl (W1R.yield 5 l1 (fun v w' => ∃ (z6 : List DElem) (k4 : Nat), q5 = (z6, k4) ∧ ∃ (A13 : Option Addr) (c13 : Nat), v = .bool (isz k4) ∧ Hp w V10 ((box b10 39 [.int .i64 e2.key.pfs, .int .i64 e2.key.obj, .int .i64 e2.key.off, .int .i64 e2.made, .int .i64 e2.gone, .string e2.val]) :: (box b9 57 [.int .i64 e1.kind, .slice A6 e1.elems.length c6, .slice A7 e1.kids.length c7, .slice A8 e1.seps.length c8, .slice A9 e1.tids.length c9]) :: (box b8 36 [.int .i64 p1.key.pfs, .int .i64 p1.key.obj, .int .i64 p1.key.off, .int .i64 p1.made]) :: (box b7 24 [.int .i64 p0.root, .slice A1 p0.nodes.length c1]) :: (row 39 eElem A13 c13 z6) :: (loopo l1 lr1 (.exit 0) [] k4) :: (marko d1) :: (box b4 29 [.slice A13 z6.length c13]) :: (box b3 3 [.int .i64 p2]) :: G2) w') (by rfl) hl1 hl2 hl3 hl4 (by rfl) (by kernel_rfl) rfl (by kernel_rfl) rfl ?_ ?_)
               ·
                refine T.region ?_
                refine T.step (W1.new 39 [.int .i64 0, .int .i64 0, .int .i64 0, .int .i64 0, .int .i64 0, .string (ByteArray.mk #[])] (fun b => .pointer (some ⟨b, 0, none⟩)) (by kernel_rfl) (fun _ => by kernel_rfl) (fun b11 => ?_))
                refine T.step (W1.store 0 [.int .i64 e2.key.pfs, .int .i64 e2.key.obj, .int .i64 e2.key.off, .int .i64 e2.made, .int .i64 e2.gone, .string e2.val] ((box b11 39 [.int .i64 e2.key.pfs, .int .i64 e2.key.obj, .int .i64 e2.key.off, .int .i64 e2.made, .int .i64 e2.gone, .string e2.val]) :: (box b10 39 [.int .i64 e2.key.pfs, .int .i64 e2.key.obj, .int .i64 e2.key.off, .int .i64 e2.made, .int .i64 e2.gone, .string e2.val]) :: (box b9 57 [.int .i64 e1.kind, .slice A6 e1.elems.length c6, .slice A7 e1.kids.length c7, .slice A8 e1.seps.length c8, .slice A9 e1.tids.length c9]) :: (box b8 36 [.int .i64 p1.key.pfs, .int .i64 p1.key.obj, .int .i64 p1.key.off, .int .i64 p1.made]) :: (box b7 24 [.int .i64 p0.root, .slice A1 p0.nodes.length c1]) :: (row 39 eElem A10 c10 x3) :: (loopo l1 lr1 (.exit 0) [] 0) :: (marko d1) :: (box b4 29 [.slice A10 x3.length c10]) :: (box b3 3 [.int .i64 p2]) :: G2) (by rfl) rfl (by kernel_rfl) (fun w' hw => exec_store (vs := [.int .i64 e2.key.pfs, .int .i64 e2.key.obj, .int .i64 e2.key.off, .int .i64 e2.made, .int .i64 e2.gone, .string e2.val]) rfl rfl rfl rfl (by kernel_rfl) (one_of rfl) (by simp) rfl hw) ?_)
                refine T.nil ?_
                refine T.unthenN ?_
                refine T.begin 6 ((box b11 39 [.int .i64 e2.key.pfs, .int .i64 e2.key.obj, .int .i64 e2.key.off, .int .i64 e2.made, .int .i64 e2.gone, .string e2.val]) :: (box b10 39 [.int .i64 e2.key.pfs, .int .i64 e2.key.obj, .int .i64 e2.key.off, .int .i64 e2.made, .int .i64 e2.gone, .string e2.val]) :: (box b9 57 [.int .i64 e1.kind, .slice A6 e1.elems.length c6, .slice A7 e1.kids.length c7, .slice A8 e1.seps.length c8, .slice A9 e1.tids.length c9]) :: (box b8 36 [.int .i64 p1.key.pfs, .int .i64 p1.key.obj, .int .i64 p1.key.off, .int .i64 p1.made]) :: (box b7 24 [.int .i64 p0.root, .slice A1 p0.nodes.length c1]) :: (row 39 eElem A10 c10 x3) :: (busyo l1 lr1) :: (marko d1) :: (box b4 29 [.slice A10 x3.length c10]) :: (box b3 3 [.int .i64 p2]) :: G2) (by rfl) rfl ?_
                refine T.block ?_
                refine T.seq ?_
                refine T.seq ?_
                refine T.region ?_
                refine T.look (.slice A10 x3.length c10) (by kernel_rfl) (fun w' hh => exec_load1 rfl rfl (by kernel_rfl) (hh.cellBox (i := 8) (by rfl) 0)) ?_
                refine T.pure (.int .i64 (x3.length : Int)) (by kernel_rfl) (fun _ => by kernel_rfl) ?_
                refine T.look (.int .i64 p2) (by kernel_rfl) (fun w' hh => exec_load1 rfl rfl (by kernel_rfl) (hh.cellBox (i := 9) (by rfl) 0)) ?_
                refine T.pure (.bool ((x3.length : Int) == p2)) (by kernel_rfl) (fun _ => by kernel_rfl) ?_
                refine T.nil ?_
                refine T.cond ((x3.length : Int) == p2) (by kernel_rfl) (by kernel_rfl) (fun hc5 => ?_) (fun hc5 => ?_)
                ·
                 rw [hc5, cond_true] at hX4
                 refine T.exit ?_
                 cases hX4
                 repeat first | refine T.unthenX ?_ | refine T.unblockX rfl ?_
                 exact T.roundExit (.exit 0) [] 0 6 ((box b11 39 [.int .i64 e2.key.pfs, .int .i64 e2.key.obj, .int .i64 e2.key.off, .int .i64 e2.made, .int .i64 e2.gone, .string e2.val]) :: (box b10 39 [.int .i64 e2.key.pfs, .int .i64 e2.key.obj, .int .i64 e2.key.off, .int .i64 e2.made, .int .i64 e2.gone, .string e2.val]) :: (box b9 57 [.int .i64 e1.kind, .slice A6 e1.elems.length c6, .slice A7 e1.kids.length c7, .slice A8 e1.seps.length c8, .slice A9 e1.tids.length c9]) :: (box b8 36 [.int .i64 p1.key.pfs, .int .i64 p1.key.obj, .int .i64 p1.key.off, .int .i64 p1.made]) :: (box b7 24 [.int .i64 p0.root, .slice A1 p0.nodes.length c1]) :: (row 39 eElem A10 c10 x3) :: (loopo l1 lr1 (.exit 0) [] (0 + 1)) :: (marko d1) :: (box b4 29 [.slice A10 x3.length c10]) :: (box b3 3 [.int .i64 p2]) :: G2) (by rfl) rfl rfl (fun w' hh => ⟨_, rfl, Exists.intro x3 (Exists.intro (0 + 1) (And.intro rfl (Exists.intro A10 (Exists.intro c10 (And.intro rfl (hh.sub (.cons _ (.cons_cons _ (.cons_cons _ (.cons_cons _ (.cons_cons _ (.cons_cons _ (.cons_cons _ (.cons_cons _ (.cons_cons _ (.cons_cons _ (List.Sublist.refl _)))))))))))))))))⟩)
                ·
                 rw [hc5, cond_false] at hX4
                 refine T.skip_code ?_
                 refine T.region ?_
                 refine T.look (.slice A10 x3.length c10) (by kernel_rfl) (fun w' hh => exec_load1 rfl rfl (by kernel_rfl) (hh.cellBox (i := 8) (by rfl) 0)) ?_
                 refine T.look (.agg #[.int .i64 e2.key.pfs, .int .i64 e2.key.obj, .int .i64 e2.key.off, .int .i64 e2.made, .int .i64 e2.gone, .string e2.val]) (by kernel_rfl) (fun w' hh => exec_loadN (cs := [.int .i64 e2.key.pfs, .int .i64 e2.key.obj, .int .i64 e2.key.off, .int .i64 e2.made, .int .i64 e2.gone, .string e2.val]) rfl rfl (by kernel_rfl) (by kernel_rfl) (fun j u hj => (hh.box_at (i := 0) (cs := [.int .i64 e2.key.pfs, .int .i64 e2.key.obj, .int .i64 e2.key.off, .int .i64 e2.made, .int .i64 e2.gone, .string e2.val]) (by rfl) 0 j).trans (seg_at (n := 6) (by rfl) hj))) ?_
                 refine T.step (W1.new 39 [.int .i64 e2.key.pfs, .int .i64 e2.key.obj, .int .i64 e2.key.off, .int .i64 e2.made, .int .i64 e2.gone, .string e2.val] (fun b => .slice (some ⟨b, 0, none⟩) 1 1) (by kernel_rfl) (fun _ => by kernel_rfl) (fun b12 => ?_))
                 obtain ⟨y2, hb6, hX4⟩ := Option.bind_eq_some_iff.1 hX4
                 obtain ⟨hb6_r, hb6_m, rfl⟩ := grow_some hb6
                 obtain ⟨ti, hti, hz1, hz2, hz3⟩ := info_parts (P := Try.prog) (e := 39) (z := .agg #[.int .i64 0, .int .i64 0, .int .i64 0, .int .i64 0, .int .i64 0, .string (ByteArray.mk #[])]) (size := 6) (bytes := 56) (by kernel_rfl)
                 refine T.step (W1.append (E := eElem) (l := x3) (m := [e2]) 6 _ _ 56 ti _ (by rfl) (by kernel_rfl) rfl (by kernel_rfl) hti hz1 hz2 hz3 rfl (by decide) rfl rfl (fun w' hh => (SlOk.srcF (slok_lit (E := eElem) (f := DElem.cells) [e2] (fun _ _ => rfl) (Nat.le_of_ble_eq_true (by rfl)) (fun j => hh.cellBox (i := 0) (by rfl) j)) (fun _ _ _ _ h => h))) hb6_r hb6_m (fun A14 c14 => ?_))
                 refine T.step (W1.store 9 [.slice A14 ((x3 ++ [e2]).length) c14] ((box b12 39 [.int .i64 e2.key.pfs, .int .i64 e2.key.obj, .int .i64 e2.key.off, .int .i64 e2.made, .int .i64 e2.gone, .string e2.val]) :: (box b11 39 [.int .i64 e2.key.pfs, .int .i64 e2.key.obj, .int .i64 e2.key.off, .int .i64 e2.made, .int .i64 e2.gone, .string e2.val]) :: (box b10 39 [.int .i64 e2.key.pfs, .int .i64 e2.key.obj, .int .i64 e2.key.off, .int .i64 e2.made, .int .i64 e2.gone, .string e2.val]) :: (box b9 57 [.int .i64 e1.kind, .slice A6 e1.elems.length c6, .slice A7 e1.kids.length c7, .slice A8 e1.seps.length c8, .slice A9 e1.tids.length c9]) :: (box b8 36 [.int .i64 p1.key.pfs, .int .i64 p1.key.obj, .int .i64 p1.key.off, .int .i64 p1.made]) :: (box b7 24 [.int .i64 p0.root, .slice A1 p0.nodes.length c1]) :: (row 39 eElem A14 c14 (x3 ++ [e2])) :: (busyo l1 lr1) :: (marko d1) :: (box b4 29 [.slice A14 ((x3 ++ [e2]).length) c14]) :: (box b3 3 [.int .i64 p2]) :: G2) (by rfl) rfl (by kernel_rfl) (fun w' hw => exec_store (vs := [.slice A14 ((x3 ++ [e2]).length) c14]) rfl rfl rfl rfl (by kernel_rfl) (one_of rfl) (by simp) rfl hw) ?_)
                 refine T.nil ?_
                 cases hX4
                 repeat first | refine T.unthenN ?_ | refine T.unblockN ?_
                 exact T.roundEnd (.exit 0) [] 7 ((box b12 39 [.int .i64 e2.key.pfs, .int .i64 e2.key.obj, .int .i64 e2.key.off, .int .i64 e2.made, .int .i64 e2.gone, .string e2.val]) :: (box b11 39 [.int .i64 e2.key.pfs, .int .i64 e2.key.obj, .int .i64 e2.key.off, .int .i64 e2.made, .int .i64 e2.gone, .string e2.val]) :: (box b10 39 [.int .i64 e2.key.pfs, .int .i64 e2.key.obj, .int .i64 e2.key.off, .int .i64 e2.made, .int .i64 e2.gone, .string e2.val]) :: (box b9 57 [.int .i64 e1.kind, .slice A6 e1.elems.length c6, .slice A7 e1.kids.length c7, .slice A8 e1.seps.length c8, .slice A9 e1.tids.length c9]) :: (box b8 36 [.int .i64 p1.key.pfs, .int .i64 p1.key.obj, .int .i64 p1.key.off, .int .i64 p1.made]) :: (box b7 24 [.int .i64 p0.root, .slice A1 p0.nodes.length c1]) :: (row 39 eElem A14 c14 (x3 ++ [e2])) :: (loopo l1 lr1 (.exit 0) [] 0) :: (marko d1) :: (box b4 29 [.slice A14 ((x3 ++ [e2]).length) c14]) :: (box b3 3 [.int .i64 p2]) :: G2) (by rfl) rfl (fun w' hh => ⟨_, rfl, Exists.intro (x3 ++ [e2]) (Exists.intro 0 (And.intro rfl (Exists.intro A14 (Exists.intro c14 (And.intro rfl (hh.sub (.cons _ (.cons _ (.cons_cons _ (.cons_cons _ (.cons_cons _ (.cons_cons _ (.cons_cons _ (.cons_cons _ (.cons_cons _ (.cons_cons _ (.cons_cons _ (List.Sublist.refl _))))))))))))))))))⟩)
               ·
                rintro v w' ⟨z6, k4, rfl, A13, c13, rfl, hh⟩
                try dsimp only at hX3
                refine ⟨V10, ((box b10 39 [.int .i64 e2.key.pfs, .int .i64 e2.key.obj, .int .i64 e2.key.off, .int .i64 e2.made, .int .i64 e2.gone, .string e2.val]) :: (box b9 57 [.int .i64 e1.kind, .slice A6 e1.elems.length c6, .slice A7 e1.kids.length c7, .slice A8 e1.seps.length c8, .slice A9 e1.tids.length c9]) :: (box b8 36 [.int .i64 p1.key.pfs, .int .i64 p1.key.obj, .int .i64 p1.key.off, .int .i64 p1.made]) :: (box b7 24 [.int .i64 p0.root, .slice A1 p0.nodes.length c1]) :: (row 39 eElem A13 c13 z6) :: (loopo l1 lr1 (.exit 0) [] k4) :: (marko d1) :: (box b4 29 [.slice A13 z6.length c13]) :: (box b3 3 [.int .i64 p2]) :: G2), hh, ?_⟩
                clear hh
                cases k4 with
                | zero =>
                 rw [natCase_zero] at hX3
                 refine TI.all [9] (by kernel_rfl) rfl ⟨?_, trivial⟩
                 refine TI.br rfl (W1.toR (W1.look (.bool false) (by kernel_rfl) (fun _ _ => by kernel_rfl) ?_))
                 refine TI.all [10] (by kernel_rfl) rfl ⟨?_, trivial⟩
                 refine TI.br rfl (W1.toR (W1.look (.bool false) (by kernel_rfl) (fun _ _ => by kernel_rfl) ?_))
                 refine TI.done (by kernel_rfl) ?_
                 cases hX3
                 exact fun a w' hf hh => Exists.intro z6 (Exists.intro 0 (And.intro rfl (Exists.intro A13 (Exists.intro c13 (Exists.intro V10 (And.intro (View.le_trans hV9 hV10) (And.intro (((((((((Fr.nil hf).pick hf 36 rfl).pick hf 22 rfl).pick hf 21 rfl).pick hf 20 rfl).pick hf 9 rfl).pick hf 6 rfl).pick hf 4 rfl).pick hf 3 rfl) (hh.sub (.cons _ (.cons_cons _ (.cons_cons _ (.cons_cons _ (.cons_cons _ (.cons_cons _ (.cons_cons _ (.cons_cons _ (.cons_cons _ (List.Sublist.refl _))))))))))))))))))
                | succ k5 =>
                 rw [natCase_succ] at hX3
                 refine TI.all [9] (by kernel_rfl) rfl ⟨?_, trivial⟩
                 refine TI.br rfl (W1.toR (W1.look (.bool true) (by kernel_rfl) (fun _ _ => by kernel_rfl) ?_))
                 refine TI.all [10] (by kernel_rfl) rfl ⟨?_, trivial⟩
                 refine TI.br rfl (W1.toR (W1.look (.bool true) (by kernel_rfl) (fun _ _ => by kernel_rfl) ?_))
                 refine TI.done (by kernel_rfl) ?_
                 cases hX3
                 exact fun a w' hf hh => Exists.intro z6 (Exists.intro (k5 + 1) (And.intro rfl (Exists.intro A13 (Exists.intro c13 (Exists.intro V10 (And.intro (View.le_trans hV9 hV10) (And.intro (((((((((Fr.nil hf).pick hf 36 rfl).pick hf 22 rfl).pick hf 21 rfl).pick hf 20 rfl).pick hf 9 rfl).pick hf 6 rfl).pick hf 4 rfl).pick hf 3 rfl) (hh.sub (.cons _ (.cons_cons _ (.cons_cons _ (.cons_cons _ (.cons_cons _ (.cons_cons _ (.cons_cons _ (.cons_cons _ (.cons_cons _ (List.Sublist.refl _))))))))))))))))))
              ·
               refine TI.br rfl (W1.toR (W1.look (.agg #[.int .i64 e2.key.pfs, .int .i64 e2.key.obj, .int .i64 e2.key.off, .int .i64 e2.made, .int .i64 e2.gone, .string e2.val]) (by kernel_rfl) (fun w' hh => exec_loadN (cs := [.int .i64 e2.key.pfs, .int .i64 e2.key.obj, .int .i64 e2.key.off, .int .i64 e2.made, .int .i64 e2.gone, .string e2.val]) rfl rfl (by kernel_rfl) (by kernel_rfl) (fun j u hj => (hh.box_at (i := 0) (cs := [.int .i64 e2.key.pfs, .int .i64 e2.key.obj, .int .i64 e2.key.off, .int .i64 e2.made, .int .i64 e2.gone, .string e2.val]) (by rfl) 0 j).trans (seg_at (n := 6) (by rfl) hj))) ?_))
               refine TI.all [6] (by kernel_rfl) rfl ⟨?_, trivial⟩
               refine TI.br rfl (W1.toR (W1.look (.func (.yield l1) #[] #[]) (by kernel_rfl) (fun _ _ => by kernel_rfl) ?_))
               refine TI.all [8] (by kernel_rfl) rfl ⟨?_, trivial⟩
               obtain ⟨q5, hX4, hX3⟩ := Option.bind_eq_some_iff.1 hX3
               refine TI.br rfl (W1R.yield 5 l1 (fun v w' => ∃ (z6 : List DElem) (k4 : Nat), q5 = (z6, k4) ∧ ∃ (A13 : Option Addr) (c13 : Nat), v = .bool (isz k4) ∧ Hp w V10 ((box b10 39 [.int .i64 e2.key.pfs, .int .i64 e2.key.obj, .int .i64 e2.key.off, .int .i64 e2.made, .int .i64 e2.gone, .string e2.val]) :: (box b9 57 [.int .i64 e1.kind, .slice A6 e1.elems.length c6, .slice A7 e1.kids.length c7, .slice A8 e1.seps.length c8, .slice A9 e1.tids.length c9]) :: (box b8 36 [.int .i64 p1.key.pfs, .int .i64 p1.key.obj, .int .i64 p1.key.off, .int .i64 p1.made]) :: (box b7 24 [.int .i64 p0.root, .slice A1 p0.nodes.length c1]) :: (row 39 eElem A13 c13 z6) :: (loopo l1 lr1 (.exit 0) [] k4) :: (marko d1) :: (box b4 29 [.slice A13 z6.length c13]) :: (box b3 3 [.int .i64 p2]) :: G2) w') (by rfl) hl1 hl2 hl3 hl4 (by rfl) (by kernel_rfl) rfl (by kernel_rfl) rfl ?_ ?_)
               ·
                refine T.region ?_
                refine T.step (W1.new 39 [.int .i64 0, .int .i64 0, .int .i64 0, .int .i64 0, .int .i64 0, .string (ByteArray.mk #[])] (fun b => .pointer (some ⟨b, 0, none⟩)) (by kernel_rfl) (fun _ => by kernel_rfl) (fun b11 => ?_))
                refine T.step (W1.store 0 [.int .i64 e2.key.pfs, .int .i64 e2.key.obj, .int .i64 e2.key.off, .int .i64 e2.made, .int .i64 e2.gone, .string e2.val] ((box b11 39 [.int .i64 e2.key.pfs, .int .i64 e2.key.obj, .int .i64 e2.key.off, .int .i64 e2.made, .int .i64 e2.gone, .string e2.val]) :: (box b10 39 [.int .i64 e2.key.pfs, .int .i64 e2.key.obj, .int .i64 e2.key.off, .int .i64 e2.made, .int .i64 e2.gone, .string e2.val]) :: (box b9 57 [.int .i64 e1.kind, .slice A6 e1.elems.length c6, .slice A7 e1.kids.length c7, .slice A8 e1.seps.length c8, .slice A9 e1.tids.length c9]) :: (box b8 36 [.int .i64 p1.key.pfs, .int .i64 p1.key.obj, .int .i64 p1.key.off, .int .i64 p1.made]) :: (box b7 24 [.int .i64 p0.root, .slice A1 p0.nodes.length c1]) :: (row 39 eElem A10 c10 x3) :: (loopo l1 lr1 (.exit 0) [] 0) :: (marko d1) :: (box b4 29 [.slice A10 x3.length c10]) :: (box b3 3 [.int .i64 p2]) :: G2) (by rfl) rfl (by kernel_rfl) (fun w' hw => exec_store (vs := [.int .i64 e2.key.pfs, .int .i64 e2.key.obj, .int .i64 e2.key.off, .int .i64 e2.made, .int .i64 e2.gone, .string e2.val]) rfl rfl rfl rfl (by kernel_rfl) (one_of rfl) (by simp) rfl hw) ?_)
                refine T.nil ?_
                refine T.unthenN ?_
                refine T.begin 6 ((box b11 39 [.int .i64 e2.key.pfs, .int .i64 e2.key.obj, .int .i64 e2.key.off, .int .i64 e2.made, .int .i64 e2.gone, .string e2.val]) :: (box b10 39 [.int .i64 e2.key.pfs, .int .i64 e2.key.obj, .int .i64 e2.key.off, .int .i64 e2.made, .int .i64 e2.gone, .string e2.val]) :: (box b9 57 [.int .i64 e1.kind, .slice A6 e1.elems.length c6, .slice A7 e1.kids.length c7, .slice A8 e1.seps.length c8, .slice A9 e1.tids.length c9]) :: (box b8 36 [.int .i64 p1.key.pfs, .int .i64 p1.key.obj, .int .i64 p1.key.off, .int .i64 p1.made]) :: (box b7 24 [.int .i64 p0.root, .slice A1 p0.nodes.length c1]) :: (row 39 eElem A10 c10 x3) :: (busyo l1 lr1) :: (marko d1) :: (box b4 29 [.slice A10 x3.length c10]) :: (box b3 3 [.int .i64 p2]) :: G2) (by rfl) rfl ?_
                refine T.block ?_
                refine T.seq ?_
                refine T.seq ?_
                refine T.region ?_
                refine T.look (.slice A10 x3.length c10) (by kernel_rfl) (fun w' hh => exec_load1 rfl rfl (by kernel_rfl) (hh.cellBox (i := 8) (by rfl) 0)) ?_
                refine T.pure (.int .i64 (x3.length : Int)) (by kernel_rfl) (fun _ => by kernel_rfl) ?_
                refine T.look (.int .i64 p2) (by kernel_rfl) (fun w' hh => exec_load1 rfl rfl (by kernel_rfl) (hh.cellBox (i := 9) (by rfl) 0)) ?_
                refine T.pure (.bool ((x3.length : Int) == p2)) (by kernel_rfl) (fun _ => by kernel_rfl) ?_
                refine T.nil ?_
                refine T.cond ((x3.length : Int) == p2) (by kernel_rfl) (by kernel_rfl) (fun hc5 => ?_) (fun hc5 => ?_)
                ·
                 rw [hc5, cond_true] at hX4
                 refine T.exit ?_
                 cases hX4
                 repeat first | refine T.unthenX ?_ | refine T.unblockX rfl ?_
                 exact T.roundExit (.exit 0) [] 0 6 ((box b11 39 [.int .i64 e2.key.pfs, .int .i64 e2.key.obj, .int .i64 e2.key.off, .int .i64 e2.made, .int .i64 e2.gone, .string e2.val]) :: (box b10 39 [.int .i64 e2.key.pfs, .int .i64 e2.key.obj, .int .i64 e2.key.off, .int .i64 e2.made, .int .i64 e2.gone, .string e2.val]) :: (box b9 57 [.int .i64 e1.kind, .slice A6 e1.elems.length c6, .slice A7 e1.kids.length c7, .slice A8 e1.seps.length c8, .slice A9 e1.tids.length c9]) :: (box b8 36 [.int .i64 p1.key.pfs, .int .i64 p1.key.obj, .int .i64 p1.key.off, .int .i64 p1.made]) :: (box b7 24 [.int .i64 p0.root, .slice A1 p0.nodes.length c1]) :: (row 39 eElem A10 c10 x3) :: (loopo l1 lr1 (.exit 0) [] (0 + 1)) :: (marko d1) :: (box b4 29 [.slice A10 x3.length c10]) :: (box b3 3 [.int .i64 p2]) :: G2) (by rfl) rfl rfl (fun w' hh => ⟨_, rfl, Exists.intro x3 (Exists.intro (0 + 1) (And.intro rfl (Exists.intro A10 (Exists.intro c10 (And.intro rfl (hh.sub (.cons _ (.cons_cons _ (.cons_cons _ (.cons_cons _ (.cons_cons _ (.cons_cons _ (.cons_cons _ (.cons_cons _ (.cons_cons _ (.cons_cons _ (List.Sublist.refl _)))))))))))))))))⟩)
                ·
                 rw [hc5, cond_false] at hX4
                 refine T.skip_code ?_
                 refine T.region ?_
                 refine T.look (.slice A10 x3.length c10) (by kernel_rfl) (fun w' hh => exec_load1 rfl rfl (by kernel_rfl) (hh.cellBox (i := 8) (by rfl) 0)) ?_
                 refine T.look (.agg #[.int .i64 e2.key.pfs, .int .i64 e2.key.obj, .int .i64 e2.key.off, .int .i64 e2.made, .int .i64 e2.gone, .string e2.val]) (by kernel_rfl) (fun w' hh => exec_loadN (cs := [.int .i64 e2.key.pfs, .int .i64 e2.key.obj, .int .i64 e2.key.off, .int .i64 e2.made, .int .i64 e2.gone, .string e2.val]) rfl rfl (by kernel_rfl) (by kernel_rfl) (fun j u hj => (hh.box_at (i := 0) (cs := [.int .i64 e2.key.pfs, .int .i64 e2.key.obj, .int .i64 e2.key.off, .int .i64 e2.made, .int .i64 e2.gone, .string e2.val]) (by rfl) 0 j).trans (seg_at (n := 6) (by rfl) hj))) ?_
                 refine T.step (W1.new 39 [.int .i64 e2.key.pfs, .int .i64 e2.key.obj, .int .i64 e2.key.off, .int .i64 e2.made, .int .i64 e2.gone, .string e2.val] (fun b => .slice (some ⟨b, 0, none⟩) 1 1) (by kernel_rfl) (fun _ => by kernel_rfl) (fun b12 => ?_))
                 obtain ⟨y2, hb6, hX4⟩ := Option.bind_eq_some_iff.1 hX4
                 obtain ⟨hb6_r, hb6_m, rfl⟩ := grow_some hb6
                 obtain ⟨ti, hti, hz1, hz2, hz3⟩ := info_parts (P := Try.prog) (e := 39) (z := .agg #[.int .i64 0, .int .i64 0, .int .i64 0, .int .i64 0, .int .i64 0, .string (ByteArray.mk #[])]) (size := 6) (bytes := 56) (by kernel_rfl)
                 refine T.step (W1.append (E := eElem) (l := x3) (m := [e2]) 6 _ _ 56 ti _ (by rfl) (by kernel_rfl) rfl (by kernel_rfl) hti hz1 hz2 hz3 rfl (by decide) rfl rfl (fun w' hh => (SlOk.srcF (slok_lit (E := eElem) (f := DElem.cells) [e2] (fun _ _ => rfl) (Nat.le_of_ble_eq_true (by rfl)) (fun j => hh.cellBox (i := 0) (by rfl) j)) (fun _ _ _ _ h => h))) hb6_r hb6_m (fun A14 c14 => ?_))
                 refine T.step (W1.store 9 [.slice A14 ((x3 ++ [e2]).length) c14] ((box b12 39 [.int .i64 e2.key.pfs, .int .i64 e2.key.obj, .int .i64 e2.key.off, .int .i64 e2.made, .int .i64 e2.gone, .string e2.val]) :: (box b11 39 [.int .i64 e2.key.pfs, .int .i64 e2.key.obj, .int .i64 e2.key.off, .int .i64 e2.made, .int .i64 e2.gone, .string e2.val]) :: (box b10 39 [.int .i64 e2.key.pfs, .int .i64 e2.key.obj, .int .i64 e2.key.off, .int .i64 e2.made, .int .i64 e2.gone, .string e2.val]) :: (box b9 57 [.int .i64 e1.kind, .slice A6 e1.elems.length c6, .slice A7 e1.kids.length c7, .slice A8 e1.seps.length c8, .slice A9 e1.tids.length c9]) :: (box b8 36 [.int .i64 p1.key.pfs, .int .i64 p1.key.obj, .int .i64 p1.key.off, .int .i64 p1.made]) :: (box b7 24 [.int .i64 p0.root, .slice A1 p0.nodes.length c1]) :: (row 39 eElem A14 c14 (x3 ++ [e2])) :: (busyo l1 lr1) :: (marko d1) :: (box b4 29 [.slice A14 ((x3 ++ [e2]).length) c14]) :: (box b3 3 [.int .i64 p2]) :: G2) (by rfl) rfl (by kernel_rfl) (fun w' hw => exec_store (vs := [.slice A14 ((x3 ++ [e2]).length) c14]) rfl rfl rfl rfl (by kernel_rfl) (one_of rfl) (by simp) rfl hw) ?_)
                 refine T.nil ?_
                 cases hX4
                 repeat first | refine T.unthenN ?_ | refine T.unblockN ?_
                 exact T.roundEnd (.exit 0) [] 7 ((box b12 39 [.int .i64 e2.key.pfs, .int .i64 e2.key.obj, .int .i64 e2.key.off, .int .i64 e2.made, .int .i64 e2.gone, .string e2.val]) :: (box b11 39 [.int .i64 e2.key.pfs, .int .i64 e2.key.obj, .int .i64 e2.key.off, .int .i64 e2.made, .int .i64 e2.gone, .string e2.val]) :: (box b10 39 [.int .i64 e2.key.pfs, .int .i64 e2.key.obj, .int .i64 e2.key.off, .int .i64 e2.made, .int .i64 e2.gone, .string e2.val]) :: (box b9 57 [.int .i64 e1.kind, .slice A6 e1.elems.length c6, .slice A7 e1.kids.length c7, .slice A8 e1.seps.length c8, .slice A9 e1.tids.length c9]) :: (box b8 36 [.int .i64 p1.key.pfs, .int .i64 p1.key.obj, .int .i64 p1.key.off, .int .i64 p1.made]) :: (box b7 24 [.int .i64 p0.root, .slice A1 p0.nodes.length c1]) :: (row 39 eElem A14 c14 (x3 ++ [e2])) :: (loopo l1 lr1 (.exit 0) [] 0) :: (marko d1) :: (box b4 29 [.slice A14 ((x3 ++ [e2]).length) c14]) :: (box b3 3 [.int .i64 p2]) :: G2) (by rfl) rfl (fun w' hh => ⟨_, rfl, Exists.intro (x3 ++ [e2]) (Exists.intro 0 (And.intro rfl (Exists.intro A14 (Exists.intro c14 (And.intro rfl (hh.sub (.cons _ (.cons _ (.cons_cons _ (.cons_cons _ (.cons_cons _ (.cons_cons _ (.cons_cons _ (.cons_cons _ (.cons_cons _ (.cons_cons _ (.cons_cons _ (List.Sublist.refl _))))))))))))))))))⟩)
               ·
                rintro v w' ⟨z6, k4, rfl, A13, c13, rfl, hh⟩
                try dsimp only at hX3
                refine ⟨V10, ((box b10 39 [.int .i64 e2.key.pfs, .int .i64 e2.key.obj, .int .i64 e2.key.off, .int .i64 e2.made, .int .i64 e2.gone, .string e2.val]) :: (box b9 57 [.int .i64 e1.kind, .slice A6 e1.elems.length c6, .slice A7 e1.kids.length c7, .slice A8 e1.seps.length c8, .slice A9 e1.tids.length c9]) :: (box b8 36 [.int .i64 p1.key.pfs, .int .i64 p1.key.obj, .int .i64 p1.key.off, .int .i64 p1.made]) :: (box b7 24 [.int .i64 p0.root, .slice A1 p0.nodes.length c1]) :: (row 39 eElem A13 c13 z6) :: (loopo l1 lr1 (.exit 0) [] k4) :: (marko d1) :: (box b4 29 [.slice A13 z6.length c13]) :: (box b3 3 [.int .i64 p2]) :: G2), hh, ?_⟩
                clear hh
                cases k4 with
                | zero =>
                 rw [natCase_zero] at hX3
                 refine TI.all [9] (by kernel_rfl) rfl ⟨?_, trivial⟩
                 refine TI.br rfl (W1.toR (W1.look (.bool false) (by kernel_rfl) (fun _ _ => by kernel_rfl) ?_))
                 refine TI.all [10] (by kernel_rfl) rfl ⟨?_, trivial⟩
                 refine TI.br rfl (W1.toR (W1.look (.bool false) (by kernel_rfl) (fun _ _ => by kernel_rfl) ?_))
                 refine TI.done (by kernel_rfl) ?_
                 cases hX3
                 exact fun a w' hf hh => Exists.intro z6 (Exists.intro 0 (And.intro rfl (Exists.intro A13 (Exists.intro c13 (Exists.intro V10 (And.intro (View.le_trans hV9 hV10) (And.intro (((((((((Fr.nil hf).pick hf 36 rfl).pick hf 22 rfl).pick hf 21 rfl).pick hf 20 rfl).pick hf 9 rfl).pick hf 6 rfl).pick hf 4 rfl).pick hf 3 rfl) (hh.sub (.cons _ (.cons_cons _ (.cons_cons _ (.cons_cons _ (.cons_cons _ (.cons_cons _ (.cons_cons _ (.cons_cons _ (.cons_cons _ (List.Sublist.refl _))))))))))))))))))
                | succ k5 =>
                 rw [natCase_succ] at hX3
                 refine TI.all [9] (by kernel_rfl) rfl ⟨?_, trivial⟩
                 refine TI.br rfl (W1.toR (W1.look (.bool true) (by kernel_rfl) (fun _ _ => by kernel_rfl) ?_))
                 refine TI.all [10] (by kernel_rfl) rfl ⟨?_, trivial⟩
                 refine TI.br rfl (W1.toR (W1.look (.bool true) (by kernel_rfl) (fun _ _ => by kernel_rfl) ?_))
                 refine TI.done (by kernel_rfl) ?_
                 cases hX3
                 exact fun a w' hf hh => Exists.intro z6 (Exists.intro (k5 + 1) (And.intro rfl (Exists.intro A13 (Exists.intro c13 (Exists.intro V10 (And.intro (View.le_trans hV9 hV10) (And.intro (((((((((Fr.nil hf).pick hf 36 rfl).pick hf 22 rfl).pick hf 21 rfl).pick hf 20 rfl).pick hf 9 rfl).pick hf 6 rfl).pick hf 4 rfl).pick hf 3 rfl) (hh.sub (.cons _ (.cons_cons _ (.cons_cons _ (.cons_cons _ (.cons_cons _ (.cons_cons _ (.cons_cons _ (.cons_cons _ (.cons_cons _ (List.Sublist.refl _))))))))))))))))))
            ·
             refine TI.br rfl (W1.toR (W1.look (.agg #[.int .i64 p1.key.pfs, .int .i64 p1.key.obj, .int .i64 p1.key.off, .int .i64 p1.made]) (by kernel_rfl) (fun w' hh => exec_loadN (cs := [.int .i64 p1.key.pfs, .int .i64 p1.key.obj, .int .i64 p1.key.off, .int .i64 p1.made]) rfl rfl (by kernel_rfl) (by kernel_rfl) (fun j u hj => (hh.box_at (i := 2) (cs := [.int .i64 p1.key.pfs, .int .i64 p1.key.obj, .int .i64 p1.key.off, .int .i64 p1.made]) (by rfl) 0 j).trans (seg_at (n := 4) (by rfl) hj))) ?_))
             refine TI.all [1] (by kernel_rfl) rfl ⟨?_, trivial⟩
             obtain ⟨r3, hb4, hX3⟩ := Option.bind_eq_some_iff.1 hX3
             refine TI.br rfl <| W1.toR (W1.call (vAg eSpot) r3 15 #[.agg #[.int .i64 e2.key.pfs, .int .i64 e2.key.obj, .int .i64 e2.key.off, .int .i64 e2.made, .int .i64 e2.gone, .string e2.val]] (by kernel_rfl) (fun _ => by kernel_rfl) (fun w' hh => elem_Spot_l e2 r3 hb4 w' ) ?_)
             intro u V9 hV9 hu
             obtain rfl := sureSpot _ _ _ hu
             refine TI.all [3] (by kernel_rfl) rfl ⟨?_, trivial⟩
             obtain ⟨r4, hb5, hX3⟩ := Option.bind_eq_some_iff.1 hX3
             refine TI.br rfl <| W1.toR (W1.call (vSc eInt) r4 14 #[.agg #[.int .i64 r3.key.pfs, .int .i64 r3.key.obj, .int .i64 r3.key.off, .int .i64 r3.made], .agg #[.int .i64 p1.key.pfs, .int .i64 p1.key.obj, .int .i64 p1.key.off, .int .i64 p1.made]] (by kernel_rfl) (fun _ => by kernel_rfl) (fun w' hh => key_CmpSpot_l r3 p1 r4 hb5 w' ) ?_)
             intro u V10 hV10 hu
             obtain rfl := sureInt _ _ _ hu
             refine TI.all [4] (by kernel_rfl) rfl ⟨?_, trivial⟩
             refine TI.br rfl (W1.toR (W1.look (.bool (decide ((0 : Int) ≤ r4))) (by kernel_rfl) (fun _ _ => by kernel_rfl) ?_))
             refine TI.all [5] (by kernel_rfl) rfl ⟨?_, trivial⟩
             refine TI.br rfl (W1.toR (W1.look (.bool (decide ((0 : Int) ≤ r4))) (by kernel_rfl) (fun _ _ => by kernel_rfl) ?_))
             cases hg1 : decide ((0 : Int) ≤ r4)
             ·
              rw [hg1, cond_false] at hX3
              refine TI.all [6, 7] (by kernel_rfl) rfl ⟨?_, ?_, trivial⟩
              ·
               refine TI.no rfl (by kernel_rfl) (by kernel_rfl) ?_
               refine TI.all [7] (by kernel_rfl) rfl ⟨?_, trivial⟩
               refine TI.no rfl (by kernel_rfl) (by kernel_rfl) ?_
               refine TI.all [8] (by kernel_rfl) rfl ⟨?_, trivial⟩
               refine TI.no rfl (by kernel_rfl) (by kernel_rfl) ?_
               refine TI.all [9] (by kernel_rfl) rfl ⟨?_, trivial⟩
               refine TI.no rfl (by kernel_rfl) (by kernel_rfl) ?_
               refine TI.all [10] (by kernel_rfl) rfl ⟨?_, trivial⟩
               refine TI.br rfl (W1.toR (W1.look (.bool false) (by kernel_rfl) (fun _ _ => by kernel_rfl) ?_))
               refine TI.done (by kernel_rfl) ?_
               cases hX3
               exact fun a w' hf hh => Exists.intro x3 (Exists.intro 0 (And.intro rfl (Exists.intro A10 (Exists.intro c10 (Exists.intro V10 (And.intro (View.le_trans hV9 hV10) (And.intro (((((((((Fr.nil hf).pick hf 36 rfl).pick hf 22 rfl).pick hf 21 rfl).pick hf 20 rfl).pick hf 9 rfl).pick hf 6 rfl).pick hf 4 rfl).pick hf 3 rfl) (hh.sub (.cons _ (.cons_cons _ (.cons_cons _ (.cons_cons _ (.cons_cons _ (.cons_cons _ (.cons_cons _ (.cons_cons _ (.cons_cons _ (List.Sublist.refl _))))))))))))))))))
              ·
               refine TI.no rfl (by kernel_rfl) (by kernel_rfl) ?_
               refine TI.all [6] (by kernel_rfl) rfl ⟨?_, trivial⟩
               refine TI.no rfl (by kernel_rfl) (by kernel_rfl) ?_
               refine TI.all [8] (by kernel_rfl) rfl ⟨?_, trivial⟩
               refine TI.no rfl (by kernel_rfl) (by kernel_rfl) ?_
               refine TI.all [9] (by kernel_rfl) rfl ⟨?_, trivial⟩
               refine TI.no rfl (by kernel_rfl) (by kernel_rfl) ?_
               refine TI.all [10] (by kernel_rfl) rfl ⟨?_, trivial⟩
               refine TI.br rfl (W1.toR (W1.look (.bool false) (by kernel_rfl) (fun _ _ => by kernel_rfl) ?_))
               refine TI.done (by kernel_rfl) ?_
               cases hX3
               exact fun a w' hf hh => Exists.intro x3 (Exists.intro 0 (And.intro rfl (Exists.intro A10 (Exists.intro c10 (Exists.intro V10 (And.intro (View.le_trans hV9 hV10) (And.intro (((((((((Fr.nil hf).pick hf 36 rfl).pick hf 22 rfl).pick hf 21 rfl).pick hf 20 rfl).pick hf 9 rfl).pick hf 6 rfl).pick hf 4 rfl).pick hf 3 rfl) (hh.sub (.cons _ (.cons_cons _ (.cons_cons _ (.cons_cons _ (.cons_cons _ (.cons_cons _ (.cons_cons _ (.cons_cons _ (.cons_cons _ (List.Sublist.refl _))))))))))))))))))
             ·
              rw [hg1, cond_true] at hX3
              refine TI.all [6, 7] (by kernel_rfl) rfl ⟨?_, ?_, trivial⟩
              ·
               refine TI.br rfl (W1.toR (W1.look (.func (.yield l1) #[] #[]) (by kernel_rfl) (fun _ _ => by kernel_rfl) ?_))
               refine TI.all [7] (by kernel_rfl) rfl ⟨?_, trivial⟩
               refine TI.br rfl (W1.toR (W1.look (.agg #[.int .i64 e2.key.pfs, .int .i64 e2.key.obj, .int .i64 e2.key.off, .int .i64 e2.made, .int .i64 e2.gone, .string e2.val]) (by kernel_rfl) (fun w' hh => exec_loadN (cs := [.int .i64 e2.key.pfs, .int .i64 e2.key.obj, .int .i64 e2.key.off, .int .i64 e2.made, .int .i64 e2.gone, .string e2.val]) rfl rfl (by kernel_rfl) (by kernel_rfl) (fun j u hj => (hh.box_at (i := 0) (cs := [.int .i64 e2.key.pfs, .int .i64 e2.key.obj, .int .i64 e2.key.off, .int .i64 e2.made, .int .i64 e2.gone, .string e2.val]) (by rfl) 0 j).trans (seg_at (n := 6) (by rfl) hj))) ?_))
               refine TI.all [8] (by kernel_rfl) rfl ⟨?_, trivial⟩
               obtain ⟨q5, hX4, hX3⟩ := Option.bind_eq_some_iff.1 hX3
               refine TI.br rfl (W1R.yield 5 l1 (fun v w' => ∃ (z6 : List DElem) (k4 : Nat), q5 = (z6, k4) ∧ ∃ (A13 : Option Addr) (c13 : Nat), v = .bool (isz k4) ∧ Hp w V10 ((box b10 39 [.int .i64 e2.key.pfs, .int .i64 e2.key.obj, .int .i64 e2.key.off, .int .i64 e2.made, .int .i64 e2.gone, .string e2.val]) :: (box b9 57 [.int .i64 e1.kind, .slice A6 e1.elems.length c6, .slice A7 e1.kids.length c7, .slice A8 e1.seps.length c8, .slice A9 e1.tids.length c9]) :: (box b8 36 [.int .i64 p1.key.pfs, .int .i64 p1.key.obj, .int .i64 p1.key.off, .int .i64 p1.made]) :: (box b7 24 [.int .i64 p0.root, .slice A1 p0.nodes.length c1]) :: (row 39 eElem A13 c13 z6) :: (loopo l1 lr1 (.exit 0) [] k4) :: (marko d1) :: (box b4 29 [.slice A13 z6.length c13]) :: (box b3 3 [.int .i64 p2]) :: G2) w') (by rfl) hl1 hl2 hl3 hl4 (by rfl) (by kernel_rfl) rfl (by kernel_rfl) rfl ?_ ?_)
               ·
                refine T.region ?_
                refine T.step (W1.new 39 [.int .i64 0, .int .i64 0, .int .i64 0, .int .i64 0, .int .i64 0, .string (ByteArray.mk #[])] (fun b => .pointer (some ⟨b, 0, none⟩)) (by kernel_rfl) (fun _ => by kernel_rfl) (fun b11 => ?_))
                refine T.step (W1.store 0 [.int .i64 e2.key.pfs, .int .i64 e2.key.obj, .int .i64 e2.key.off, .int .i64 e2.made, .int .i64 e2.gone, .string e2.val] ((box b11 39 [.int .i64 e2.key.pfs, .int .i64 e2.key.obj, .int .i64 e2.key.off, .int .i64 e2.made, .int .i64 e2.gone, .string e2.val]) :: (box b10 39 [.int .i64 e2.key.pfs, .int .i64 e2.key.obj, .int .i64 e2.key.off, .int .i64 e2.made, .int .i64 e2.gone, .string e2.val]) :: (box b9 57 [.int .i64 e1.kind, .slice A6 e1.elems.length c6, .slice A7 e1.kids.length c7, .slice A8 e1.seps.length c8, .slice A9 e1.tids.length c9]) :: (box b8 36 [.int .i64 p1.key.pfs, .int .i64 p1.key.obj, .int .i64 p1.key.off, .int .i64 p1.made]) :: (box b7 24 [.int .i64 p0.root, .slice A1 p0.nodes.length c1]) :: (row 39 eElem A10 c10 x3) :: (loopo l1 lr1 (.exit 0) [] 0) :: (marko d1) :: (box b4 29 [.slice A10 x3.length c10]) :: (box b3 3 [.int .i64 p2]) :: G2) (by rfl) rfl (by kernel_rfl) (fun w' hw => exec_store (vs := [.int .i64 e2.key.pfs, .int .i64 e2.key.obj, .int .i64 e2.key.off, .int .i64 e2.made, .int .i64 e2.gone, .string e2.val]) rfl rfl rfl rfl (by kernel_rfl) (one_of rfl) (by simp) rfl hw) ?_)
                refine T.nil ?_
                refine T.unthenN ?_
                refine T.begin 6 ((box b11 39 [.int .i64 e2.key.pfs, .int .i64 e2.key.obj, .int .i64 e2.key.off, .int .i64 e2.made, .int .i64 e2.gone, .string e2.val]) :: (box b10 39 [.int .i64 e2.key.pfs, .int .i64 e2.key.obj, .int .i64 e2.key.off, .int .i64 e2.made, .int .i64 e2.gone, .string e2.val]) :: (box b9 57 [.int .i64 e1.kind, .slice A6 e1.elems.length c6, .slice A7 e1.kids.length c7, .slice A8 e1.seps.length c8, .slice A9 e1.tids.length c9]) :: (box b8 36 [.int .i64 p1.key.pfs, .int .i64 p1.key.obj, .int .i64 p1.key.off, .int .i64 p1.made]) :: (box b7 24 [.int .i64 p0.root, .slice A1 p0.nodes.length c1]) :: (row 39 eElem A10 c10 x3) :: (busyo l1 lr1) :: (marko d1) :: (box b4 29 [.slice A10 x3.length c10]) :: (box b3 3 [.int .i64 p2]) :: G2) (by rfl) rfl ?_
                refine T.block ?_
                refine T.seq ?_
                refine T.seq ?_
                refine T.region ?_
                refine T.look (.slice A10 x3.length c10) (by kernel_rfl) (fun w' hh => exec_load1 rfl rfl (by kernel_rfl) (hh.cellBox (i := 8) (by rfl) 0)) ?_
                refine T.pure (.int .i64 (x3.length : Int)) (by kernel_rfl) (fun _ => by kernel_rfl) ?_
                refine T.look (.int .i64 p2) (by kernel_rfl) (fun w' hh => exec_load1 rfl rfl (by kernel_rfl) (hh.cellBox (i := 9) (by rfl) 0)) ?_
                refine T.pure (.bool ((x3.length : Int) == p2)) (by kernel_rfl) (fun _ => by kernel_rfl) ?_
                refine T.nil ?_
                refine T.cond ((x3.length : Int) == p2) (by kernel_rfl) (by kernel_rfl) (fun hc5 => ?_) (fun hc5 => ?_)
                ·
                 rw [hc5, cond_true] at hX4
                 refine T.exit ?_
                 cases hX4
                 repeat first | refine T.unthenX ?_ | refine T.unblockX rfl ?_
                 exact T.roundExit (.exit 0) [] 0 6 ((box b11 39 [.int .i64 e2.key.pfs, .int .i64 e2.key.obj, .int .i64 e2.key.off, .int .i64 e2.made, .int .i64 e2.gone, .string e2.val]) :: (box b10 39 [.int .i64 e2.key.pfs, .int .i64 e2.key.obj, .int .i64 e2.key.off, .int .i64 e2.made, .int .i64 e2.gone, .string e2.val]) :: (box b9 57 [.int .i64 e1.kind, .slice A6 e1.elems.length c6, .slice A7 e1.kids.length c7, .slice A8 e1.seps.length c8, .slice A9 e1.tids.length c9]) :: (box b8 36 [.int .i64 p1.key.pfs, .int .i64 p1.key.obj, .int .i64 p1.key.off, .int .i64 p1.made]) :: (box b7 24 [.int .i64 p0.root, .slice A1 p0.nodes.length c1]) :: (row 39 eElem A10 c10 x3) :: (loopo l1 lr1 (.exit 0) [] (0 + 1)) :: (marko d1) :: (box b4 29 [.slice A10 x3.length c10]) :: (box b3 3 [.int .i64 p2]) :: G2) (by rfl) rfl rfl (fun w' hh => ⟨_, rfl, Exists.intro x3 (Exists.intro (0 + 1) (And.intro rfl (Exists.intro A10 (Exists.intro c10 (And.intro rfl (hh.sub (.cons _ (.cons_cons _ (.cons_cons _ (.cons_cons _ (.cons_cons _ (.cons_cons _ (.cons_cons _ (.cons_cons _ (.cons_cons _ (.cons_cons _ (List.Sublist.refl _)))))))))))))))))⟩)
                ·
                 rw [hc5, cond_false] at hX4
                 refine T.skip_code ?_
                 refine T.region ?_
                 refine T.look (.slice A10 x3.length c10) (by kernel_rfl) (fun w' hh => exec_load1 rfl rfl (by kernel_rfl) (hh.cellBox (i := 8) (by rfl) 0)) ?_
                 refine T.look (.agg #[.int .i64 e2.key.pfs, .int .i64 e2.key.obj, .int .i64 e2.key.off, .int .i64 e2.made, .int .i64 e2.gone, .string e2.val]) (by kernel_rfl) (fun w' hh => exec_loadN (cs := [.int .i64 e2.key.pfs, .int .i64 e2.key.obj, .int .i64 e2.key.off, .int .i64 e2.made, .int .i64 e2.gone, .string e2.val]) rfl rfl (by kernel_rfl) (by kernel_rfl) (fun j u hj => (hh.box_at (i := 0) (cs := [.int .i64 e2.key.pfs, .int .i64 e2.key.obj, .int .i64 e2.key.off, .int .i64 e2.made, .int .i64 e2.gone, .string e2.val]) (by rfl) 0 j).trans (seg_at (n := 6) (by rfl) hj))) ?_
                 refine T.step (W1.new 39 [.int .i64 e2.key.pfs, .int .i64 e2.key.obj, .int .i64 e2.key.off, .int .i64 e2.made, .int .i64 e2.gone, .string e2.val] (fun b => .slice (some ⟨b, 0, none⟩) 1 1) (by kernel_rfl) (fun _ => by kernel_rfl) (fun b12 => ?_))
                 obtain ⟨y2, hb6, hX4⟩ := Option.bind_eq_some_iff.1 hX4
                 obtain ⟨hb6_r, hb6_m, rfl⟩ := grow_some hb6
                 obtain ⟨ti, hti, hz1, hz2, hz3⟩ := info_parts (P := Try.prog) (e := 39) (z := .agg #[.int .i64 0, .int .i64 0, .int .i64 0, .int .i64 0, .int .i64 0, .string (ByteArray.mk #[])]) (size := 6) (bytes := 56) (by kernel_rfl)
                 refine T.step (W1.append (E := eElem) (l := x3) (m := [e2]) 6 _ _ 56 ti _ (by rfl) (by kernel_rfl) rfl (by kernel_rfl) hti hz1 hz2 hz3 rfl (by decide) rfl rfl (fun w' hh => (SlOk.srcF (slok_lit (E := eElem) (f := DElem.cells) [e2] (fun _ _ => rfl) (Nat.le_of_ble_eq_true (by rfl)) (fun j => hh.cellBox (i := 0) (by rfl) j)) (fun _ _ _ _ h => h))) hb6_r hb6_m (fun A14 c14 => ?_))
                 refine T.step (W1.store 9 [.slice A14 ((x3 ++ [e2]).length) c14] ((box b12 39 [.int .i64 e2.key.pfs, .int .i64 e2.key.obj, .int .i64 e2.key.off, .int .i64 e2.made, .int .i64 e2.gone, .string e2.val]) :: (box b11 39 [.int .i64 e2.key.pfs, .int .i64 e2.key.obj, .int .i64 e2.key.off, .int .i64 e2.made, .int .i64 e2.gone, .string e2.val]) :: (box b10 39 [.int .i64 e2.key.pfs, .int .i64 e2.key.obj, .int .i64 e2.key.off, .int .i64 e2.made, .int .i64 e2.gone, .string e2.val]) :: (box b9 57 [.int .i64 e1.kind, .slice A6 e1.elems.length c6, .slice A7 e1.kids.length c7, .slice A8 e1.seps.length c8, .slice A9 e1.tids.length c9]) :: (box b8 36 [.int .i64 p1.key.pfs, .int .i64 p1.key.obj, .int .i64 p1.key.off, .int .i64 p1.made]) :: (box b7 24 [.int .i64 p0.root, .slice A1 p0.nodes.length c1]) :: (row 39 eElem A14 c14 (x3 ++ [e2])) :: (busyo l1 lr1) :: (marko d1) :: (box b4 29 [.slice A14 ((x3 ++ [e2]).length) c14]) :: (box b3 3 [.int .i64 p2]) :: G2) (by rfl) rfl (by kernel_rfl) (fun w' hw => exec_store (vs := [.slice A14 ((x3 ++ [e2]).length) c14]) rfl rfl rfl rfl (by kernel_rfl) (one_of rfl) (by simp) rfl hw) ?_)
                 refine T.nil ?_
                 cases hX4
                 repeat first | refine T.unthenN ?_ | refine T.unblockN ?_
                 exact T.roundEnd (.exit 0) [] 7 ((box b12 39 [.int .i64 e2.key.pfs, .int .i64 e2.key.obj, .int .i64 e2.key.off, .int .i64 e2.made, .int .i64 e2.gone, .string e2.val]) :: (box b11 39 [.int .i64 e2.key.pfs, .int .i64 e2.key.obj, .int .i64 e2.key.off, .int .i64 e2.made, .int .i64 e2.gone, .string e2.val]) :: (box b10 39 [.int .i64 e2.key.pfs, .int .i64 e2.key.obj, .int .i64 e2.key.off, .int .i64 e2.made, .int .i64 e2.gone, .string e2.val]) :: (box b9 57 [.int .i64 e1.kind, .slice A6 e1.elems.length c6, .slice A7 e1.kids.length c7, .slice A8 e1.seps.length c8, .slice A9 e1.tids.length c9]) :: (box b8 36 [.int .i64 p1.key.pfs, .int .i64 p1.key.obj, .int .i64 p1.key.off, .int .i64 p1.made]) :: (box b7 24 [.int .i64 p0.root, .slice A1 p0.nodes.length c1]) :: (row 39 eElem A14 c14 (x3 ++ [e2])) :: (loopo l1 lr1 (.exit 0) [] 0) :: (marko d1) :: (box b4 29 [.slice A14 ((x3 ++ [e2]).length) c14]) :: (box b3 3 [.int .i64 p2]) :: G2) (by rfl) rfl (fun w' hh => ⟨_, rfl, Exists.intro (x3 ++ [e2]) (Exists.intro 0 (And.intro rfl (Exists.intro A14 (Exists.intro c14 (And.intro rfl (hh.sub (.cons _ (.cons _ (.cons_cons _ (.cons_cons _ (.cons_cons _ (.cons_cons _ (.cons_cons _ (.cons_cons _ (.cons_cons _ (.cons_cons _ (.cons_cons _ (List.Sublist.refl _))))))))))))))))))⟩)
               ·
                rintro v w' ⟨z6, k4, rfl, A13, c13, rfl, hh⟩
                try dsimp only at hX3
                refine ⟨V10, ((box b10 39 [.int .i64 e2.key.pfs, .int .i64 e2.key.obj, .int .i64 e2.key.off, .int .i64 e2.made, .int .i64 e2.gone, .string e2.val]) :: (box b9 57 [.int .i64 e1.kind, .slice A6 e1.elems.length c6, .slice A7 e1.kids.length c7, .slice A8 e1.seps.length c8, .slice A9 e1.tids.length c9]) :: (box b8 36 [.int .i64 p1.key.pfs, .int .i64 p1.key.obj, .int .i64 p1.key.off, .int .i64 p1.made]) :: (box b7 24 [.int .i64 p0.root, .slice A1 p0.nodes.length c1]) :: (row 39 eElem A13 c13 z6) :: (loopo l1 lr1 (.exit 0) [] k4) :: (marko d1) :: (box b4 29 [.slice A13 z6.length c13]) :: (box b3 3 [.int .i64 p2]) :: G2), hh, ?_⟩
                clear hh
                cases k4 with
                | zero =>
                 rw [natCase_zero] at hX3
                 refine TI.all [9] (by kernel_rfl) rfl ⟨?_, trivial⟩
                 refine TI.br rfl (W1.toR (W1.look (.bool false) (by kernel_rfl) (fun _ _ => by kernel_rfl) ?_))
                 refine TI.all [10] (by kernel_rfl) rfl ⟨?_, trivial⟩
                 refine TI.br rfl (W1.toR (W1.look (.bool false) (by kernel_rfl) (fun _ _ => by kernel_rfl) ?_))
                 refine TI.done (by kernel_rfl) ?_
                 cases hX3
                 exact fun a w' hf hh => Exists.intro z6 (Exists.intro 0 (And.intro rfl (Exists.intro A13 (Exists.intro c13 (Exists.intro V10 (And.intro (View.le_trans hV9 hV10) (And.intro (((((((((Fr.nil hf).pick hf 36 rfl).pick hf 22 rfl).pick hf 21 rfl).pick hf 20 rfl).pick hf 9 rfl).pick hf 6 rfl).pick hf 4 rfl).pick hf 3 rfl) (hh.sub (.cons _ (.cons_cons _ (.cons_cons _ (.cons_cons _ (.cons_cons _ (.cons_cons _ (.cons_cons _ (.cons_cons _ (.cons_cons _ (List.Sublist.refl _))))))))))))))))))
                | succ k5 =>
                 rw [natCase_succ] at hX3
                 refine TI.all [9] (by kernel_rfl) rfl ⟨?_, trivial⟩
                 refine TI.br rfl (W1.toR (W1.look (.bool true) (by kernel_rfl) (fun _ _ => by kernel_rfl) ?_))
                 refine TI.all [10] (by kernel_rfl) rfl ⟨?_, trivial⟩
                 refine TI.br rfl (W1.toR (W1.look (.bool true) (by kernel_rfl) (fun _ _ => by kernel_rfl) ?_))
                 refine TI.done (by kernel_rfl) ?_
                 cases hX3
                 exact fun a w' hf hh => Exists.intro z6 (Exists.intro (k5 + 1) (And.intro rfl (Exists.intro A13 (Exists.intro c13 (Exists.intro V10 (And.intro (View.le_trans hV9 hV10) (And.intro (((((((((Fr.nil hf).pick hf 36 rfl).pick hf 22 rfl).pick hf 21 rfl).pick hf 20 rfl).pick hf 9 rfl).pick hf 6 rfl).pick hf 4 rfl).pick hf 3 rfl) (hh.sub (.cons _ (.cons_cons _ (.cons_cons _ (.cons_cons _ (.cons_cons _ (.cons_cons _ (.cons_cons _ (.cons_cons _ (.cons_cons _ (List.Sublist.refl _))))))))))))))))))
              ·
               refine TI.br rfl (W1.toR (W1.look (.agg #[.int .i64 e2.key.pfs, .int .i64 e2.key.obj, .int .i64 e2.key.off, .int .i64 e2.made, .int .i64 e2.gone, .string e2.val]) (by kernel_rfl) (fun w' hh => exec_loadN (cs := [.int .i64 e2.key.pfs, .int .i64 e2.key.obj, .int .i64 e2.key.off, .int .i64 e2.made, .int .i64 e2.gone, .string e2.val]) rfl rfl (by kernel_rfl) (by kernel_rfl) (fun j u hj => (hh.box_at (i := 0) (cs := [.int .i64 e2.key.pfs, .int .i64 e2.key.obj, .int .i64 e2.key.off, .int .i64 e2.made, .int .i64 e2.gone, .string e2.val]) (by rfl) 0 j).trans (seg_at (n := 6) (by rfl) hj))) ?_))
               refine TI.all [6] (by kernel_rfl) rfl ⟨?_, trivial⟩
               refine TI.br rfl (W1.toR (W1.look (.func (.yield l1) #[] #[]) (by kernel_rfl) (fun _ _ => by kernel_rfl) ?_))
               refine TI.all [8] (by kernel_rfl) rfl ⟨?_, trivial⟩
               obtain ⟨q5, hX4, hX3⟩ := Option.bind_eq_some_iff.1 hX3
               refine TI.br rfl (W1R.yield 5 l1 (fun v w' => ∃ (z6 : List DElem) (k4 : Nat), q5 = (z6, k4) ∧ ∃ (A13 : Option Addr) (c13 : Nat), v = .bool (isz k4) ∧ Hp w V10 ((box b10 39 [.int .i64 e2.key.pfs, .int .i64 e2.key.obj, .int .i64 e2.key.off, .int .i64 e2.made, .int .i64 e2.gone, .string e2.val]) :: (box b9 57 [.int .i64 e1.kind, .slice A6 e1.elems.length c6, .slice A7 e1.kids.length c7, .slice A8 e1.seps.length c8, .slice A9 e1.tids.length c9]) :: (box b8 36 [.int .i64 p1.key.pfs, .int .i64 p1.key.obj, .int .i64 p1.key.off, .int .i64 p1.made]) :: (box b7 24 [.int .i64 p0.root, .slice A1 p0.nodes.length c1]) :: (row 39 eElem A13 c13 z6) :: (loopo l1 lr1 (.exit 0) [] k4) :: (marko d1) :: (box b4 29 [.slice A13 z6.length c13]) :: (box b3 3 [.int .i64 p2]) :: G2) w') (by rfl) hl1 hl2 hl3 hl4 (by rfl) (by kernel_rfl) rfl (by kernel_rfl) rfl ?_ ?_)
               ·
                refine T.region ?_
                refine T.step (W1.new 39 [.int .i64 0, .int .i64 0, .int .i64 0, .int .i64 0, .int .i64 0, .string (ByteArray.mk #[])] (fun b => .pointer (some ⟨b, 0, none⟩)) (by kernel_rfl) (fun _ => by kernel_rfl) (fun b11 => ?_))
                refine T.step (W1.store 0 [.int .i64 e2.key.pfs, .int .i64 e2.key.obj, .int .i64 e2.key.off, .int .i64 e2.made, .int .i64 e2.gone, .string e2.val] ((box b11 39 [.int .i64 e2.key.pfs, .int .i64 e2.key.obj, .int .i64 e2.key.off, .int .i64 e2.made, .int .i64 e2.gone, .string e2.val]) :: (box b10 39 [.int .i64 e2.key.pfs, .int .i64 e2.key.obj, .int .i64 e2.key.off, .int .i64 e2.made, .int .i64 e2.gone, .string e2.val]) :: (box b9 57 [.int .i64 e1.kind, .slice A6 e1.elems.length c6, .slice A7 e1.kids.length c7, .slice A8 e1.seps.length c8, .slice A9 e1.tids.length c9]) :: (box b8 36 [.int .i64 p1.key.pfs, .int .i64 p1.key.obj, .int .i64 p1.key.off, .int .i64 p1.made]) :: (box b7 24 [.int .i64 p0.root, .slice A1 p0.nodes.length c1]) :: (row 39 eElem A10 c10 x3) :: (loopo l1 lr1 (.exit 0) [] 0) :: (marko d1) :: (box b4 29 [.slice A10 x3.length c10]) :: (box b3 3 [.int .i64 p2]) :: G2) (by rfl) rfl (by kernel_rfl) (fun w' hw => exec_store (vs := [.int .i64 e2.key.pfs, .int .i64 e2.key.obj, .int .i64 e2.key.off, .int .i64 e2.made, .int .i64 e2.gone, .string e2.val]) rfl rfl rfl rfl (by kernel_rfl) (one_of rfl) (by simp) rfl hw) ?_)
                refine T.nil ?_
                refine T.unthenN ?_
                refine T.begin 6 ((box b11 39 [.int .i64 e2.key.pfs, .int .i64 e2.key.obj, .int .i64 e2.key.off, .int .i64 e2.made, .int .i64 e2.gone, .string e2.val]) :: (box b10 39 [.int .i64 e2.key.pfs, .int .i64 e2.key.obj, .int .i64 e2.key.off, .int .i64 e2.made, .int .i64 e2.gone, .string e2.val]) :: (box b9 57 [.int .i64 e1.kind, .slice A6 e1.elems.length c6, .slice A7 e1.kids.length c7, .slice A8 e1.seps.length c8, .slice A9 e1.tids.length c9]) :: (box b8 36 [.int .i64 p1.key.pfs, .int .i64 p1.key.obj, .int .i64 p1.key.off, .int .i64 p1.made]) :: (box b7 24 [.int .i64 p0.root, .slice A1 p0.nodes.length c1]) :: (row 39 eElem A10 c10 x3) :: (busyo l1 lr1) :: (marko d1) :: (box b4 29 [.slice A10 x3.length c10]) :: (box b3 3 [.int .i64 p2]) :: G2) (by rfl) rfl ?_
                refine T.block ?_
                refine T.seq ?_
                refine T.seq ?_
                refine T.region ?_
                refine T.look (.slice A10 x3.length c10) (by kernel_rfl) (fun w' hh => exec_load1 rfl rfl (by kernel_rfl) (hh.cellBox (i := 8) (by rfl) 0)) ?_
                refine T.pure (.int .i64 (x3.length : Int)) (by kernel_rfl) (fun _ => by kernel_rfl) ?_
                refine T.look (.int .i64 p2) (by kernel_rfl) (fun w' hh => exec_load1 rfl rfl (by kernel_rfl) (hh.cellBox (i := 9) (by rfl) 0)) ?_
                refine T.pure (.bool ((x3.length : Int) == p2)) (by kernel_rfl) (fun _ => by kernel_rfl) ?_
                refine T.nil ?_
                refine T.cond ((x3.length : Int) == p2) (by kernel_rfl) (by kernel_rfl) (fun hc5 => ?_) (fun hc5 => ?_)
                ·
                 rw [hc5, cond_true] at hX4
                 refine T.exit ?_
                 cases hX4
                 repeat first | refine T.unthenX ?_ | refine T.unblockX rfl ?_
                 exact T.roundExit (.exit 0) [] 0 6 ((box b11 39 [.int .i64 e2.key.pfs, .int .i64 e2.key.obj, .int .i64 e2.key.off, .int .i64 e2.made, .int .i64 e2.gone, .string e2.val]) :: (box b10 39 [.int .i64 e2.key.pfs, .int .i64 e2.key.obj, .int .i64 e2.key.off, .int .i64 e2.made, .int .i64 e2.gone, .string e2.val]) :: (box b9 57 [.int .i64 e1.kind, .slice A6 e1.elems.length c6, .slice A7 e1.kids.length c7, .slice A8 e1.seps.length c8, .slice A9 e1.tids.length c9]) :: (box b8 36 [.int .i64 p1.key.pfs, .int .i64 p1.key.obj, .int .i64 p1.key.off, .int .i64 p1.made]) :: (box b7 24 [.int .i64 p0.root, .slice A1 p0.nodes.length c1]) :: (row 39 eElem A10 c10 x3) :: (loopo l1 lr1 (.exit 0) [] (0 + 1)) :: (marko d1) :: (box b4 29 [.slice A10 x3.length c10]) :: (box b3 3 [.int .i64 p2]) :: G2) (by rfl) rfl rfl (fun w' hh => ⟨_, rfl, Exists.intro x3 (Exists.intro (0 + 1) (And.intro rfl (Exists.intro A10 (Exists.intro c10 (And.intro rfl (hh.sub (.cons _ (.cons_cons _ (.cons_cons _ (.cons_cons _ (.cons_cons _ (.cons_cons _ (.cons_cons _ (.cons_cons _ (.cons_cons _ (.cons_cons _ (List.Sublist.refl _)))))))))))))))))⟩)
                ·
                 rw [hc5, cond_false] at hX4
                 refine T.skip_code ?_
                 refine T.region ?_
                 refine T.look (.slice A10 x3.length c10) (by kernel_rfl) (fun w' hh => exec_load1 rfl rfl (by kernel_rfl) (hh.cellBox (i := 8) (by rfl) 0)) ?_
                 refine T.look (.agg #[.int .i64 e2.key.pfs, .int .i64 e2.key.obj, .int .i64 e2.key.off, .int .i64 e2.made, .int .i64 e2.gone, .string e2.val]) (by kernel_rfl) (fun w' hh => exec_loadN (cs := [.int .i64 e2.key.pfs, .int .i64 e2.key.obj, .int .i64 e2.key.off, .int .i64 e2.made, .int .i64 e2.gone, .string e2.val]) rfl rfl (by kernel_rfl) (by kernel_rfl) (fun j u hj => (hh.box_at (i := 0) (cs := [.int .i64 e2.key.pfs, .int .i64 e2.key.obj, .int .i64 e2.key.off, .int .i64 e2.made, .int .i64 e2.gone, .string e2.val]) (by rfl) 0 j).trans (seg_at (n := 6) (by rfl) hj))) ?_
                 refine T.step (W1.new 39 [.int .i64 e2.key.pfs, .int .i64 e2.key.obj, .int .i64 e2.key.off, .int .i64 e2.made, .int .i64 e2.gone, .string e2.val] (fun b => .slice (some ⟨b, 0, none⟩) 1 1) (by kernel_rfl) (fun _ => by kernel_rfl) (fun b12 => ?_))
                 obtain ⟨y2, hb6, hX4⟩ := Option.bind_eq_some_iff.1 hX4
                 obtain ⟨hb6_r, hb6_m, rfl⟩ := grow_some hb6
                 obtain ⟨ti, hti, hz1, hz2, hz3⟩ := info_parts (P := Try.prog) (e := 39) (z := .agg #[.int .i64 0, .int .i64 0, .int .i64 0, .int .i64 0, .int .i64 0, .string (ByteArray.mk #[])]) (size := 6) (bytes := 56) (by kernel_rfl)
                 refine T.step (W1.append (E := eElem) (l := x3) (m := [e2]) 6 _ _ 56 ti _ (by rfl) (by kernel_rfl) rfl (by kernel_rfl) hti hz1 hz2 hz3 rfl (by decide) rfl rfl (fun w' hh => (SlOk.srcF (slok_lit (E := eElem) (f := DElem.cells) [e2] (fun _ _ => rfl) (Nat.le_of_ble_eq_true (by rfl)) (fun j => hh.cellBox (i := 0) (by rfl) j)) (fun _ _ _ _ h => h))) hb6_r hb6_m (fun A14 c14 => ?_))
                 refine T.step (W1.store 9 [.slice A14 ((x3 ++ [e2]).length) c14] ((box b12 39 [.int .i64 e2.key.pfs, .int .i64 e2.key.obj, .int .i64 e2.key.off, .int .i64 e2.made, .int .i64 e2.gone, .string e2.val]) :: (box b11 39 [.int .i64 e2.key.pfs, .int .i64 e2.key.obj, .int .i64 e2.key.off, .int .i64 e2.made, .int .i64 e2.gone, .string e2.val]) :: (box b10 39 [.int .i64 e2.key.pfs, .int .i64 e2.key.obj, .int .i64 e2.key.off, .int .i64 e2.made, .int .i64 e2.gone, .string e2.val]) :: (box b9 57 [.int .i64 e1.kind, .slice A6 e1.elems.length c6, .slice A7 e1.kids.length c7, .slice A8 e1.seps.length c8, .slice A9 e1.tids.length c9]) :: (box b8 36 [.int .i64 p1.key.pfs, .int .i64 p1.key.obj, .int .i64 p1.key.off, .int .i64 p1.made]) :: (box b7 24 [.int .i64 p0.root, .slice A1 p0.nodes.length c1]) :: (row 39 eElem A14 c14 (x3 ++ [e2])) :: (busyo l1 lr1) :: (marko d1) :: (box b4 29 [.slice A14 ((x3 ++ [e2]).length) c14]) :: (box b3 3 [.int .i64 p2]) :: G2) (by rfl) rfl (by kernel_rfl) (fun w' hw => exec_store (vs := [.slice A14 ((x3 ++ [e2]).length) c14]) rfl rfl rfl rfl (by kernel_rfl) (one_of rfl) (by simp) rfl hw) ?_)
                 refine T.nil ?_
                 cases hX4
                 repeat first | refine T.unthenN ?_ | refine T.unblockN ?_
                 exact T.roundEnd (.exit 0) [] 7 ((box b12 39 [.int .i64 e2.key.pfs, .int .i64 e2.key.obj, .int .i64 e2.key.off, .int .i64 e2.made, .int .i64 e2.gone, .string e2.val]) :: (box b11 39 [.int .i64 e2.key.pfs, .int .i64 e2.key.obj, .int .i64 e2.key.off, .int .i64 e2.made, .int .i64 e2.gone, .string e2.val]) :: (box b10 39 [.int .i64 e2.key.pfs, .int .i64 e2.key.obj, .int .i64 e2.key.off, .int .i64 e2.made, .int .i64 e2.gone, .string e2.val]) :: (box b9 57 [.int .i64 e1.kind, .slice A6 e1.elems.length c6, .slice A7 e1.kids.length c7, .slice A8 e1.seps.length c8, .slice A9 e1.tids.length c9]) :: (box b8 36 [.int .i64 p1.key.pfs, .int .i64 p1.key.obj, .int .i64 p1.key.off, .int .i64 p1.made]) :: (box b7 24 [.int .i64 p0.root, .slice A1 p0.nodes.length c1]) :: (row 39 eElem A14 c14 (x3 ++ [e2])) :: (loopo l1 lr1 (.exit 0) [] 0) :: (marko d1) :: (box b4 29 [.slice A14 ((x3 ++ [e2]).length) c14]) :: (box b3 3 [.int .i64 p2]) :: G2) (by rfl) rfl (fun w' hh => ⟨_, rfl, Exists.intro (x3 ++ [e2]) (Exists.intro 0 (And.intro rfl (Exists.intro A14 (Exists.intro c14 (And.intro rfl (hh.sub (.cons _ (.cons _ (.cons_cons _ (.cons_cons _ (.cons_cons _ (.cons_cons _ (.cons_cons _ (.cons_cons _ (.cons_cons _ (.cons_cons _ (.cons_cons _ (List.Sublist.refl _))))))))))))))))))⟩)
               ·
                rintro v w' ⟨z6, k4, rfl, A13, c13, rfl, hh⟩
                try dsimp only at hX3
                refine ⟨V10, ((box b10 39 [.int .i64 e2.key.pfs, .int .i64 e2.key.obj, .int .i64 e2.key.off, .int .i64 e2.made, .int .i64 e2.gone, .string e2.val]) :: (box b9 57 [.int .i64 e1.kind, .slice A6 e1.elems.length c6, .slice A7 e1.kids.length c7, .slice A8 e1.seps.length c8, .slice A9 e1.tids.length c9]) :: (box b8 36 [.int .i64 p1.key.pfs, .int .i64 p1.key.obj, .int .i64 p1.key.off, .int .i64 p1.made]) :: (box b7 24 [.int .i64 p0.root, .slice A1 p0.nodes.length c1]) :: (row 39 eElem A13 c13 z6) :: (loopo l1 lr1 (.exit 0) [] k4) :: (marko d1) :: (box b4 29 [.slice A13 z6.length c13]) :: (box b3 3 [.int .i64 p2]) :: G2), hh, ?_⟩
                clear hh
                cases k4 with
                | zero =>
                 rw [natCase_zero] at hX3
                 refine TI.all [9] (by kernel_rfl) rfl ⟨?_, trivial⟩
                 refine TI.br rfl (W1.toR (W1.look (.bool false) (by kernel_rfl) (fun _ _ => by kernel_rfl) ?_))
                 refine TI.all [10] (by kernel_rfl) rfl ⟨?_, trivial⟩
                 refine TI.br rfl (W1.toR (W1.look (.bool false) (by kernel_rfl) (fun _ _ => by kernel_rfl) ?_))
                 refine TI.done (by kernel_rfl) ?_
                 cases hX3
                 exact fun a w' hf hh => Exists.intro z6 (Exists.intro 0 (And.intro rfl (Exists.intro A13 (Exists.intro c13 (Exists.intro V10 (And.intro (View.le_trans hV9 hV10) (And.intro (((((((((Fr.nil hf).pick hf 36 rfl).pick hf 22 rfl).pick hf 21 rfl).pick hf 20 rfl).pick hf 9 rfl).pick hf 6 rfl).pick hf 4 rfl).pick hf 3 rfl) (hh.sub (.cons _ (.cons_cons _ (.cons_cons _ (.cons_cons _ (.cons_cons _ (.cons_cons _ (.cons_cons _ (.cons_cons _ (.cons_cons _ (List.Sublist.refl _))))))))))))))))))
                | succ k5 =>
                 rw [natCase_succ] at hX3
                 refine TI.all [9] (by kernel_rfl) rfl ⟨?_, trivial⟩
                 refine TI.br rfl (W1.toR (W1.look (.bool true) (by kernel_rfl) (fun _ _ => by kernel_rfl) ?_))
                 refine TI.all [10] (by kernel_rfl) rfl ⟨?_, trivial⟩
                 refine TI.br rfl (W1.toR (W1.look (.bool true) (by kernel_rfl) (fun _ _ => by kernel_rfl) ?_))
                 refine TI.done (by kernel_rfl) ?_
                 cases hX3
                 exact fun a w' hf hh => Exists.intro z6 (Exists.intro (k5 + 1) (And.intro rfl (Exists.intro A13 (Exists.intro c13 (Exists.intro V10 (And.intro (View.le_trans hV9 hV10) (And.intro (((((((((Fr.nil hf).pick hf 36 rfl).pick hf 22 rfl).pick hf 21 rfl).pick hf 20 rfl).pick hf 9 rfl).pick hf 6 rfl).pick hf 4 rfl).pick hf 3 rfl) (hh.sub (.cons _ (.cons_cons _ (.cons_cons _ (.cons_cons _ (.cons_cons _ (.cons_cons _ (.cons_cons _ (.cons_cons _ (.cons_cons _ (List.Sublist.refl _))))))))))))))))))
           ·
            refine TI.br rfl (W1.toR (W1.look (.agg #[.int .i64 p1.key.pfs, .int .i64 p1.key.obj, .int .i64 p1.key.off, .int .i64 p1.made]) (by kernel_rfl) (fun w' hh => exec_loadN (cs := [.int .i64 p1.key.pfs, .int .i64 p1.key.obj, .int .i64 p1.key.off, .int .i64 p1.made]) rfl rfl (by kernel_rfl) (by kernel_rfl) (fun j u hj => (hh.box_at (i := 2) (cs := [.int .i64 p1.key.pfs, .int .i64 p1.key.obj, .int .i64 p1.key.off, .int .i64 p1.made]) (by rfl) 0 j).trans (seg_at (n := 4) (by rfl) hj))) ?_))
            refine TI.all [0] (by kernel_rfl) rfl ⟨?_, trivial⟩
            refine TI.br rfl (W1.toR (W1.look (.agg #[.int .i64 e2.key.pfs, .int .i64 e2.key.obj, .int .i64 e2.key.off, .int .i64 e2.made, .int .i64 e2.gone, .string e2.val]) (by kernel_rfl) (fun w' hh => exec_loadN (cs := [.int .i64 e2.key.pfs, .int .i64 e2.key.obj, .int .i64 e2.key.off, .int .i64 e2.made, .int .i64 e2.gone, .string e2.val]) rfl rfl (by kernel_rfl) (by kernel_rfl) (fun j u hj => (hh.box_at (i := 0) (cs := [.int .i64 e2.key.pfs, .int .i64 e2.key.obj, .int .i64 e2.key.off, .int .i64 e2.made, .int .i64 e2.gone, .string e2.val]) (by rfl) 0 j).trans (seg_at (n := 6) (by rfl) hj))) ?_))
            refine TI.all [1] (by kernel_rfl) rfl ⟨?_, trivial⟩
            obtain ⟨r3, hb4, hX3⟩ := Option.bind_eq_some_iff.1 hX3
            refine TI.br rfl <| W1.toR (W1.call (vAg eSpot) r3 15 #[.agg #[.int .i64 e2.key.pfs, .int .i64 e2.key.obj, .int .i64 e2.key.off, .int .i64 e2.made, .int .i64 e2.gone, .string e2.val]] (by kernel_rfl) (fun _ => by kernel_rfl) (fun w' hh => elem_Spot_l e2 r3 hb4 w' ) ?_)
            intro u V9 hV9 hu
            obtain rfl := sureSpot _ _ _ hu
            refine TI.all [3] (by kernel_rfl) rfl ⟨?_, trivial⟩
            obtain ⟨r4, hb5, hX3⟩ := Option.bind_eq_some_iff.1 hX3
            refine TI.br rfl <| W1.toR (W1.call (vSc eInt) r4 14 #[.agg #[.int .i64 r3.key.pfs, .int .i64 r3.key.obj, .int .i64 r3.key.off, .int .i64 r3.made], .agg #[.int .i64 p1.key.pfs, .int .i64 p1.key.obj, .int .i64 p1.key.off, .int .i64 p1.made]] (by kernel_rfl) (fun _ => by kernel_rfl) (fun w' hh => key_CmpSpot_l r3 p1 r4 hb5 w' ) ?_)
            intro u V10 hV10 hu
            obtain rfl := sureInt _ _ _ hu
            refine TI.all [4] (by kernel_rfl) rfl ⟨?_, trivial⟩
            refine TI.br rfl (W1.toR (W1.look (.bool (decide ((0 : Int) ≤ r4))) (by kernel_rfl) (fun _ _ => by kernel_rfl) ?_))
            refine TI.all [5] (by kernel_rfl) rfl ⟨?_, trivial⟩
            refine TI.br rfl (W1.toR (W1.look (.bool (decide ((0 : Int) ≤ r4))) (by kernel_rfl) (fun _ _ => by kernel_rfl) ?_))
            cases hg1 : decide ((0 : Int) ≤ r4)
            ·
             rw [hg1, cond_false] at hX3
             refine TI.all [6, 7] (by kernel_rfl) rfl ⟨?_, ?_, trivial⟩
             ·
              refine TI.no rfl (by kernel_rfl) (by kernel_rfl) ?_
              refine TI.all [7] (by kernel_rfl) rfl ⟨?_, trivial⟩
              refine TI.no rfl (by kernel_rfl) (by kernel_rfl) ?_
              refine TI.all [8] (by kernel_rfl) rfl ⟨?_, trivial⟩
              refine TI.no rfl (by kernel_rfl) (by kernel_rfl) ?_
              refine TI.all [9] (by kernel_rfl) rfl ⟨?_, trivial⟩
              refine TI.no rfl (by kernel_rfl) (by kernel_rfl) ?_
              refine TI.all [10] (by kernel_rfl) rfl ⟨?_, trivial⟩
              refine TI.br rfl (W1.toR (W1.look (.bool false) (by kernel_rfl) (fun _ _ => by kernel_rfl) ?_))
              refine TI.done (by kernel_rfl) ?_
              cases hX3
              exact fun a w' hf hh => Exists.intro x3 (Exists.intro 0 (And.intro rfl (Exists.intro A10 (Exists.intro c10 (Exists.intro V10 (And.intro (View.le_trans hV9 hV10) (And.intro (((((((((Fr.nil hf).pick hf 36 rfl).pick hf 22 rfl).pick hf 21 rfl).pick hf 20 rfl).pick hf 9 rfl).pick hf 6 rfl).pick hf 4 rfl).pick hf 3 rfl) (hh.sub (.cons _ (.cons_cons _ (.cons_cons _ (.cons_cons _ (.cons_cons _ (.cons_cons _ (.cons_cons _ (.cons_cons _ (.cons_cons _ (List.Sublist.refl _))))))))))))))))))
             ·
              refine TI.no rfl (by kernel_rfl) (by kernel_rfl) ?_
              refine TI.all [6] (by kernel_rfl) rfl ⟨?_, trivial⟩
              refine TI.no rfl (by kernel_rfl) (by kernel_rfl) ?_
              refine TI.all [8] (by kernel_rfl) rfl ⟨?_, trivial⟩
              refine TI.no rfl (by kernel_rfl) (by kernel_rfl) ?_
              refine TI.all [9] (by kernel_rfl) rfl ⟨?_, trivial⟩
              refine TI.no rfl (by kernel_rfl) (by kernel_rfl) ?_
              refine TI.all [10] (by kernel_rfl) rfl ⟨?_, trivial⟩
              refine TI.br rfl (W1.toR (W1.look (.bool false) (by kernel_rfl) (fun _ _ => by kernel_rfl) ?_))
              refine TI.done (by kernel_rfl) ?_
              cases hX3
              exact fun a w' hf hh => Exists.intro x3 (Exists.intro 0 (And.intro rfl (Exists.intro A10 (Exists.intro c10 (Exists.intro V10 (And.intro (View.le_trans hV9 hV10) (And.intro (((((((((Fr.nil hf).pick hf 36 rfl).pick hf 22 rfl).pick hf 21 rfl).pick hf 20 rfl).pick hf 9 rfl).pick hf 6 rfl).pick hf 4 rfl).pick hf 3 rfl) (hh.sub (.cons _ (.cons_cons _ (.cons_cons _ (.cons_cons _ (.cons_cons _ (.cons_cons _ (.cons_cons _ (.cons_cons _ (.cons_cons _ (List.Sublist.refl _))))))))))))))))))
            ·
             rw [hg1, cond_true] at hX3
             refine TI.all [6, 7] (by kernel_rfl) rfl ⟨?_, ?_, trivial⟩
             ·
              refine TI.br rfl (W1.toR (W1.look (.func (.yield l1) #[] #[]) (by kernel_rfl) (fun _ _ => by kernel_rfl) ?_))
              refine TI.all [7] (by kernel_rfl) rfl ⟨?_, trivial⟩
              refine TI.br rfl (W1.toR (W1.look (.agg #[.int .i64 e2.key.pfs, .int .i64 e2.key.obj, .int .i64 e2.key.off, .int .i64 e2.made, .int .i64 e2.gone, .string e2.val]) (by kernel_rfl) (fun w' hh => exec_loadN (cs := [.int .i64 e2.key.pfs, .int .i64 e2.key.obj, .int .i64 e2.key.off, .int .i64 e2.made, .int .i64 e2.gone, .string e2.val]) rfl rfl (by kernel_rfl) (by kernel_rfl) (fun j u hj => (hh.box_at (i := 0) (cs := [.int .i64 e2.key.pfs, .int .i64 e2.key.obj, .int .i64 e2.key.off, .int .i64 e2.made, .int .i64 e2.gone, .string e2.val]) (by rfl) 0 j).trans (seg_at (n := 6) (by rfl) hj))) ?_))
              refine TI.all [8] (by kernel_rfl) rfl ⟨?_, trivial⟩
              obtain ⟨q5, hX4, hX3⟩ := Option.bind_eq_some_iff.1 hX3
              refine TI.br rfl (W1R.yield 5 l1 (fun v w' => ∃ (z6 : List DElem) (k4 : Nat), q5 = (z6, k4) ∧ ∃ (A13 : Option Addr) (c13 : Nat), v = .bool (isz k4) ∧ Hp w V10 ((box b10 39 [.int .i64 e2.key.pfs, .int .i64 e2.key.obj, .int .i64 e2.key.off, .int .i64 e2.made, .int .i64 e2.gone, .string e2.val]) :: (box b9 57 [.int .i64 e1.kind, .slice A6 e1.elems.length c6, .slice A7 e1.kids.length c7, .slice A8 e1.seps.length c8, .slice A9 e1.tids.length c9]) :: (box b8 36 [.int .i64 p1.key.pfs, .int .i64 p1.key.obj, .int .i64 p1.key.off, .int .i64 p1.made]) :: (box b7 24 [.int .i64 p0.root, .slice A1 p0.nodes.length c1]) :: (row 39 eElem A13 c13 z6) :: (loopo l1 lr1 (.exit 0) [] k4) :: (marko d1) :: (box b4 29 [.slice A13 z6.length c13]) :: (box b3 3 [.int .i64 p2]) :: G2) w') (by rfl) hl1 hl2 hl3 hl4 (by rfl) (by kernel_rfl) rfl (by kernel_rfl) rfl ?_ ?_)
              ·
               refine T.region ?_
               refine T.step (W1.new 39 [.int .i64 0, .int .i64 0, .int .i64 0, .int .i64 0, .int .i64 0, .string (ByteArray.mk #[])] (fun b => .pointer (some ⟨b, 0, none⟩)) (by kernel_rfl) (fun _ => by kernel_rfl) (fun b11 => ?_))
               refine T.step (W1.store 0 [.int .i64 e2.key.pfs, .int .i64 e2.key.obj, .int .i64 e2.key.off, .int .i64 e2.made, .int .i64 e2.gone, .string e2.val] ((box b11 39 [.int .i64 e2.key.pfs, .int .i64 e2.key.obj, .int .i64 e2.key.off, .int .i64 e2.made, .int .i64 e2.gone, .string e2.val]) :: (box b10 39 [.int .i64 e2.key.pfs, .int .i64 e2.key.obj, .int .i64 e2.key.off, .int .i64 e2.made, .int .i64 e2.gone, .string e2.val]) :: (box b9 57 [.int .i64 e1.kind, .slice A6 e1.elems.length c6, .slice A7 e1.kids.length c7, .slice A8 e1.seps.length c8, .slice A9 e1.tids.length c9]) :: (box b8 36 [.int .i64 p1.key.pfs, .int .i64 p1.key.obj, .int .i64 p1.key.off, .int .i64 p1.made]) :: (box b7 24 [.int .i64 p0.root, .slice A1 p0.nodes.length c1]) :: (row 39 eElem A10 c10 x3) :: (loopo l1 lr1 (.exit 0) [] 0) :: (marko d1) :: (box b4 29 [.slice A10 x3.length c10]) :: (box b3 3 [.int .i64 p2]) :: G2) (by rfl) rfl (by kernel_rfl) (fun w' hw => exec_store (vs := [.int .i64 e2.key.pfs, .int .i64 e2.key.obj, .int .i64 e2.key.off, .int .i64 e2.made, .int .i64 e2.gone, .string e2.val]) rfl rfl rfl rfl (by kernel_rfl) (one_of rfl) (by simp) rfl hw) ?_)
               refine T.nil ?_
               refine T.unthenN ?_
               refine T.begin 6 ((box b11 39 [.int .i64 e2.key.pfs, .int .i64 e2.key.obj, .int .i64 e2.key.off, .int .i64 e2.made, .int .i64 e2.gone, .string e2.val]) :: (box b10 39 [.int .i64 e2.key.pfs, .int .i64 e2.key.obj, .int .i64 e2.key.off, .int .i64 e2.made, .int .i64 e2.gone, .string e2.val]) :: (box b9 57 [.int .i64 e1.kind, .slice A6 e1.elems.length c6, .slice A7 e1.kids.length c7, .slice A8 e1.seps.length c8, .slice A9 e1.tids.length c9]) :: (box b8 36 [.int .i64 p1.key.pfs, .int .i64 p1.key.obj, .int .i64 p1.key.off, .int .i64 p1.made]) :: (box b7 24 [.int .i64 p0.root, .slice A1 p0.nodes.length c1]) :: (row 39 eElem A10 c10 x3) :: (busyo l1 lr1) :: (marko d1) :: (box b4 29 [.slice A10 x3.length c10]) :: (box b3 3 [.int .i64 p2]) :: G2) (by rfl) rfl ?_
               refine T.block ?_
               refine T.seq ?_
               refine T.seq ?_
               refine T.region ?_
               refine T.look (.slice A10 x3.length c10) (by kernel_rfl) (fun w' hh => exec_load1 rfl rfl (by kernel_rfl) (hh.cellBox (i := 8) (by rfl) 0)) ?_
               refine T.pure (.int .i64 (x3.length : Int)) (by kernel_rfl) (fun _ => by kernel_rfl) ?_
               refine T.look (.int .i64 p2) (by kernel_rfl) (fun w' hh => exec_load1 rfl rfl (by kernel_rfl) (hh.cellBox (i := 9) (by rfl) 0)) ?_
               refine T.pure (.bool ((x3.length : Int) == p2)) (by kernel_rfl) (fun _ => by kernel_rfl) ?_
               refine T.nil ?_
               refine T.cond ((x3.length : Int) == p2) (by kernel_rfl) (by kernel_rfl) (fun hc5 => ?_) (fun hc5 => ?_)
               ·
                rw [hc5, cond_true] at hX4
                refine T.exit ?_
                cases hX4
                repeat first | refine T.unthenX ?_ | refine T.unblockX rfl ?_
                exact T.roundExit (.exit 0) [] 0 6 ((box b11 39 [.int .i64 e2.key.pfs, .int .i64 e2.key.obj, .int .i64 e2.key.off, .int .i64 e2.made, .int .i64 e2.gone, .string e2.val]) :: (box b10 39 [.int .i64 e2.key.pfs, .int .i64 e2.key.obj, .int .i64 e2.key.off, .int .i64 e2.made, .int .i64 e2.gone, .string e2.val]) :: (box b9 57 [.int .i64 e1.kind, .slice A6 e1.elems.length c6, .slice A7 e1.kids.length c7, .slice A8 e1.seps.length c8, .slice A9 e1.tids.length c9]) :: (box b8 36 [.int .i64 p1.key.pfs, .int .i64 p1.key.obj, .int .i64 p1.key.off, .int .i64 p1.made]) :: (box b7 24 [.int .i64 p0.root, .slice A1 p0.nodes.length c1]) :: (row 39 eElem A10 c10 x3) :: (loopo l1 lr1 (.exit 0) [] (0 + 1)) :: (marko d1) :: (box b4 29 [.slice A10 x3.length c10]) :: (box b3 3 [.int .i64 p2]) :: G2) (by rfl) rfl rfl (fun w' hh => ⟨_, rfl, Exists.intro x3 (Exists.intro (0 + 1) (And.intro rfl (Exists.intro A10 (Exists.intro c10 (And.intro rfl (hh.sub (.cons _ (.cons_cons _ (.cons_cons _ (.cons_cons _ (.cons_cons _ (.cons_cons _ (.cons_cons _ (.cons_cons _ (.cons_cons _ (.cons_cons _ (List.Sublist.refl _)))))))))))))))))⟩)
               ·
                rw [hc5, cond_false] at hX4
                refine T.skip_code ?_
                refine T.region ?_
                refine T.look (.slice A10 x3.length c10) (by kernel_rfl) (fun w' hh => exec_load1 rfl rfl (by kernel_rfl) (hh.cellBox (i := 8) (by rfl) 0)) ?_
                refine T.look (.agg #[.int .i64 e2.key.pfs, .int .i64 e2.key.obj, .int .i64 e2.key.off, .int .i64 e2.made, .int .i64 e2.gone, .string e2.val]) (by kernel_rfl) (fun w' hh => exec_loadN (cs := [.int .i64 e2.key.pfs, .int .i64 e2.key.obj, .int .i64 e2.key.off, .int .i64 e2.made, .int .i64 e2.gone, .string e2.val]) rfl rfl (by kernel_rfl) (by kernel_rfl) (fun j u hj => (hh.box_at (i := 0) (cs := [.int .i64 e2.key.pfs, .int .i64 e2.key.obj, .int .i64 e2.key.off, .int .i64 e2.made, .int .i64 e2.gone, .string e2.val]) (by rfl) 0 j).trans (seg_at (n := 6) (by rfl) hj))) ?_
                refine T.step (W1.new 39 [.int .i64 e2.key.pfs, .int .i64 e2.key.obj, .int .i64 e2.key.off, .int .i64 e2.made, .int .i64 e2.gone, .string e2.val] (fun b => .slice (some ⟨b, 0, none⟩) 1 1) (by kernel_rfl) (fun _ => by kernel_rfl) (fun b12 => ?_))
                obtain ⟨y2, hb6, hX4⟩ := Option.bind_eq_some_iff.1 hX4
                obtain ⟨hb6_r, hb6_m, rfl⟩ := grow_some hb6
                obtain ⟨ti, hti, hz1, hz2, hz3⟩ := info_parts (P := Try.prog) (e := 39) (z := .agg #[.int .i64 0, .int .i64 0, .int .i64 0, .int .i64 0, .int .i64 0, .string (ByteArray.mk #[])]) (size := 6) (bytes := 56) (by kernel_rfl)
                refine T.step (W1.append (E := eElem) (l := x3) (m := [e2]) 6 _ _ 56 ti _ (by rfl) (by kernel_rfl) rfl (by kernel_rfl) hti hz1 hz2 hz3 rfl (by decide) rfl rfl (fun w' hh => (SlOk.srcF (slok_lit (E := eElem) (f := DElem.cells) [e2] (fun _ _ => rfl) (Nat.le_of_ble_eq_true (by rfl)) (fun j => hh.cellBox (i := 0) (by rfl) j)) (fun _ _ _ _ h => h))) hb6_r hb6_m (fun A14 c14 => ?_))
                refine T.step (W1.store 9 [.slice A14 ((x3 ++ [e2]).length) c14] ((box b12 39 [.int .i64 e2.key.pfs, .int .i64 e2.key.obj, .int .i64 e2.key.off, .int .i64 e2.made, .int .i64 e2.gone, .string e2.val]) :: (box b11 39 [.int .i64 e2.key.pfs, .int .i64 e2.key.obj, .int .i64 e2.key.off, .int .i64 e2.made, .int .i64 e2.gone, .string e2.val]) :: (box b10 39 [.int .i64 e2.key.pfs, .int .i64 e2.key.obj, .int .i64 e2.key.off, .int .i64 e2.made, .int .i64 e2.gone, .string e2.val]) :: (box b9 57 [.int .i64 e1.kind, .slice A6 e1.elems.length c6, .slice A7 e1.kids.length c7, .slice A8 e1.seps.length c8, .slice A9 e1.tids.length c9]) :: (box b8 36 [.int .i64 p1.key.pfs, .int .i64 p1.key.obj, .int .i64 p1.key.off, .int .i64 p1.made]) :: (box b7 24 [.int .i64 p0.root, .slice A1 p0.nodes.length c1]) :: (row 39 eElem A14 c14 (x3 ++ [e2])) :: (busyo l1 lr1) :: (marko d1) :: (box b4 29 [.slice A14 ((x3 ++ [e2]).length) c14]) :: (box b3 3 [.int .i64 p2]) :: G2) (by rfl) rfl (by kernel_rfl) (fun w' hw => exec_store (vs := [.slice A14 ((x3 ++ [e2]).length) c14]) rfl rfl rfl rfl (by kernel_rfl) (one_of rfl) (by simp) rfl hw) ?_)
                refine T.nil ?_
                cases hX4
                repeat first | refine T.unthenN ?_ | refine T.unblockN ?_
                exact T.roundEnd (.exit 0) [] 7 ((box b12 39 [.int .i64 e2.key.pfs, .int .i64 e2.key.obj, .int .i64 e2.key.off, .int .i64 e2.made, .int .i64 e2.gone, .string e2.val]) :: (box b11 39 [.int .i64 e2.key.pfs, .int .i64 e2.key.obj, .int .i64 e2.key.off, .int .i64 e2.made, .int .i64 e2.gone, .string e2.val]) :: (box b10 39 [.int .i64 e2.key.pfs, .int .i64 e2.key.obj, .int .i64 e2.key.off, .int .i64 e2.made, .int .i64 e2.gone, .string e2.val]) :: (box b9 57 [.int .i64 e1.kind, .slice A6 e1.elems.length c6, .slice A7 e1.kids.length c7, .slice A8 e1.seps.length c8, .slice A9 e1.tids.length c9]) :: (box b8 36 [.int .i64 p1.key.pfs, .int .i64 p1.key.obj, .int .i64 p1.key.off, .int .i64 p1.made]) :: (box b7 24 [.int .i64 p0.root, .slice A1 p0.nodes.length c1]) :: (row 39 eElem A14 c14 (x3 ++ [e2])) :: (loopo l1 lr1 (.exit 0) [] 0) :: (marko d1) :: (box b4 29 [.slice A14 ((x3 ++ [e2]).length) c14]) :: (box b3 3 [.int .i64 p2]) :: G2) (by rfl) rfl (fun w' hh => ⟨_, rfl, Exists.intro (x3 ++ [e2]) (Exists.intro 0 (And.intro rfl (Exists.intro A14 (Exists.intro c14 (And.intro rfl (hh.sub (.cons _ (.cons _ (.cons_cons _ (.cons_cons _ (.cons_cons _ (.cons_cons _ (.cons_cons _ (.cons_cons _ (.cons_cons _ (.cons_cons _ (.cons_cons _ (List.Sublist.refl _))))))))))))))))))⟩)
              ·
               rintro v w' ⟨z6, k4, rfl, A13, c13, rfl, hh⟩
               try dsimp only at hX3
               refine ⟨V10, ((box b10 39 [.int .i64 e2.key.pfs, .int .i64 e2.key.obj, .int .i64 e2.key.off, .int .i64 e2.made, .int .i64 e2.gone, .string e2.val]) :: (box b9 57 [.int .i64 e1.kind, .slice A6 e1.elems.length c6, .slice A7 e1.kids.length c7, .slice A8 e1.seps.length c8, .slice A9 e1.tids.length c9]) :: (box b8 36 [.int .i64 p1.key.pfs, .int .i64 p1.key.obj, .int .i64 p1.key.off, .int .i64 p1.made]) :: (box b7 24 [.int .i64 p0.root, .slice A1 p0.nodes.length c1]) :: (row 39 eElem A13 c13 z6) :: (loopo l1 lr1 (.exit 0) [] k4) :: (marko d1) :: (box b4 29 [.slice A13 z6.length c13]) :: (box b3 3 [.int .i64 p2]) :: G2), hh, ?_⟩
               clear hh
               cases k4 with
               | zero =>
                rw [natCase_zero] at hX3
                refine TI.all [9] (by kernel_rfl) rfl ⟨?_, trivial⟩
                refine TI.br rfl (W1.toR (W1.look (.bool false) (by kernel_rfl) (fun _ _ => by kernel_rfl) ?_))
                refine TI.all [10] (by kernel_rfl) rfl ⟨?_, trivial⟩
                refine TI.br rfl (W1.toR (W1.look (.bool false) (by kernel_rfl) (fun _ _ => by kernel_rfl) ?_))
                refine TI.done (by kernel_rfl) ?_
                cases hX3
                exact fun a w' hf hh => Exists.intro z6 (Exists.intro 0 (And.intro rfl (Exists.intro A13 (Exists.intro c13 (Exists.intro V10 (And.intro (View.le_trans hV9 hV10) (And.intro (((((((((Fr.nil hf).pick hf 36 rfl).pick hf 22 rfl).pick hf 21 rfl).pick hf 20 rfl).pick hf 9 rfl).pick hf 6 rfl).pick hf 4 rfl).pick hf 3 rfl) (hh.sub (.cons _ (.cons_cons _ (.cons_cons _ (.cons_cons _ (.cons_cons _ (.cons_cons _ (.cons_cons _ (.cons_cons _ (.cons_cons _ (List.Sublist.refl _))))))))))))))))))
               | succ k5 =>
                rw [natCase_succ] at hX3
                refine TI.all [9] (by kernel_rfl) rfl ⟨?_, trivial⟩
                refine TI.br rfl (W1.toR (W1.look (.bool true) (by kernel_rfl) (fun _ _ => by kernel_rfl) ?_))
                refine TI.all [10] (by kernel_rfl) rfl ⟨?_, trivial⟩
                refine TI.br rfl (W1.toR (W1.look (.bool true) (by kernel_rfl) (fun _ _ => by kernel_rfl) ?_))
                refine TI.done (by kernel_rfl) ?_
                cases hX3
                exact fun a w' hf hh => Exists.intro z6 (Exists.intro (k5 + 1) (And.intro rfl (Exists.intro A13 (Exists.intro c13 (Exists.intro V10 (And.intro (View.le_trans hV9 hV10) (And.intro (((((((((Fr.nil hf).pick hf 36 rfl).pick hf 22 rfl).pick hf 21 rfl).pick hf 20 rfl).pick hf 9 rfl).pick hf 6 rfl).pick hf 4 rfl).pick hf 3 rfl) (hh.sub (.cons _ (.cons_cons _ (.cons_cons _ (.cons_cons _ (.cons_cons _ (.cons_cons _ (.cons_cons _ (.cons_cons _ (.cons_cons _ (List.Sublist.refl _))))))))))))))))))
             ·
              refine TI.br rfl (W1.toR (W1.look (.agg #[.int .i64 e2.key.pfs, .int .i64 e2.key.obj, .int .i64 e2.key.off, .int .i64 e2.made, .int .i64 e2.gone, .string e2.val]) (by kernel_rfl) (fun w' hh => exec_loadN (cs := [.int .i64 e2.key.pfs, .int .i64 e2.key.obj, .int .i64 e2.key.off, .int .i64 e2.made, .int .i64 e2.gone, .string e2.val]) rfl rfl (by kernel_rfl) (by kernel_rfl) (fun j u hj => (hh.box_at (i := 0) (cs := [.int .i64 e2.key.pfs, .int .i64 e2.key.obj, .int .i64 e2.key.off, .int .i64 e2.made, .int .i64 e2.gone, .string e2.val]) (by rfl) 0 j).trans (seg_at (n := 6) (by rfl) hj))) ?_))
              refine TI.all [6] (by kernel_rfl) rfl ⟨?_, trivial⟩
              refine TI.br rfl (W1.toR (W1.look (.func (.yield l1) #[] #[]) (by kernel_rfl) (fun _ _ => by kernel_rfl) ?_))
              refine TI.all [8] (by kernel_rfl) rfl ⟨?_, trivial⟩
              obtain ⟨q5, hX4, hX3⟩ := Option.bind_eq_some_iff.1 hX3
              refine TI.br rfl (W1R.yield 5 l1 (fun v w' => ∃ (z6 : List DElem) (k4 : Nat), q5 = (z6, k4) ∧ ∃ (A13 : Option Addr) (c13 : Nat), v = .bool (isz k4) ∧ Hp w V10 ((box b10 39 [.int .i64 e2.key.pfs, .int .i64 e2.key.obj, .int .i64 e2.key.off, .int .i64 e2.made, .int .i64 e2.gone, .string e2.val]) :: (box b9 57 [.int .i64 e1.kind, .slice A6 e1.elems.length c6, .slice A7 e1.kids.length c7, .slice A8 e1.seps.length c8, .slice A9 e1.tids.length c9]) :: (box b8 36 [.int .i64 p1.key.pfs, .int .i64 p1.key.obj, .int .i64 p1.key.off, .int .i64 p1.made]) :: (box b7 24 [.int .i64 p0.root, .slice A1 p0.nodes.length c1]) :: (row 39 eElem A13 c13 z6) :: (loopo l1 lr1 (.exit 0) [] k4) :: (marko d1) :: (box b4 29 [.slice A13 z6.length c13]) :: (box b3 3 [.int .i64 p2]) :: G2) w') (by rfl) hl1 hl2 hl3 hl4 (by rfl) (by kernel_rfl) rfl (by kernel_rfl) rfl ?_ ?_)
              ·
               refine T.region ?_
               refine T.step (W1.new 39 [.int .i64 0, .int .i64 0, .int .i64 0, .int .i64 0, .int .i64 0, .string (ByteArray.mk #[])] (fun b => .pointer (some ⟨b, 0, none⟩)) (by kernel_rfl) (fun _ => by kernel_rfl) (fun b11 => ?_))
               refine T.step (W1.store 0 [.int .i64 e2.key.pfs, .int .i64 e2.key.obj, .int .i64 e2.key.off, .int .i64 e2.made, .int .i64 e2.gone, .string e2.val] ((box b11 39 [.int .i64 e2.key.pfs, .int .i64 e2.key.obj, .int .i64 e2.key.off, .int .i64 e2.made, .int .i64 e2.gone, .string e2.val]) :: (box b10 39 [.int .i64 e2.key.pfs, .int .i64 e2.key.obj, .int .i64 e2.key.off, .int .i64 e2.made, .int .i64 e2.gone, .string e2.val]) :: (box b9 57 [.int .i64 e1.kind, .slice A6 e1.elems.length c6, .slice A7 e1.kids.length c7, .slice A8 e1.seps.length c8, .slice A9 e1.tids.length c9]) :: (box b8 36 [.int .i64 p1.key.pfs, .int .i64 p1.key.obj, .int .i64 p1.key.off, .int .i64 p1.made]) :: (box b7 24 [.int .i64 p0.root, .slice A1 p0.nodes.length c1]) :: (row 39 eElem A10 c10 x3) :: (loopo l1 lr1 (.exit 0) [] 0) :: (marko d1) :: (box b4 29 [.slice A10 x3.length c10]) :: (box b3 3 [.int .i64 p2]) :: G2) (by rfl) rfl (by kernel_rfl) (fun w' hw => exec_store (vs := [.int .i64 e2.key.pfs, .int .i64 e2.key.obj, .int .i64 e2.key.off, .int .i64 e2.made, .int .i64 e2.gone, .string e2.val]) rfl rfl rfl rfl (by kernel_rfl) (one_of rfl) (by simp) rfl hw) ?_)
               refine T.nil ?_
               refine T.unthenN ?_
               refine T.begin 6 ((box b11 39 [.int .i64 e2.key.pfs, .int .i64 e2.key.obj, .int .i64 e2.key.off, .int .i64 e2.made, .int .i64 e2.gone, .string e2.val]) :: (box b10 39 [.int .i64 e2.key.pfs, .int .i64 e2.key.obj, .int .i64 e2.key.off, .int .i64 e2.made, .int .i64 e2.gone, .string e2.val]) :: (box b9 57 [.int .i64 e1.kind, .slice A6 e1.elems.length c6, .slice A7 e1.kids.length c7, .slice A8 e1.seps.length c8, .slice A9 e1.tids.length c9]) :: (box b8 36 [.int .i64 p1.key.pfs, .int .i64 p1.key.obj, .int .i64 p1.key.off, .int .i64 p1.made]) :: (box b7 24 [.int .i64 p0.root, .slice A1 p0.nodes.length c1]) :: (row 39 eElem A10 c10 x3) :: (busyo l1 lr1) :: (marko d1) :: (box b4 29 [.slice A10 x3.length c10]) :: (box b3 3 [.int .i64 p2]) :: G2) (by rfl) rfl ?_
               refine T.block ?_
               refine T.seq ?_
               refine T.seq ?_
               refine T.region ?_
               refine T.look (.slice A10 x3.length c10) (by kernel_rfl) (fun w' hh => exec_load1 rfl rfl (by kernel_rfl) (hh.cellBox (i := 8) (by rfl) 0)) ?_
               refine T.pure (.int .i64 (x3.length : Int)) (by kernel_rfl) (fun _ => by kernel_rfl) ?_
               refine T.look (.int .i64 p2) (by kernel_rfl) (fun w' hh => exec_load1 rfl rfl (by kernel_rfl) (hh.cellBox (i := 9) (by rfl) 0)) ?_
               refine T.pure (.bool ((x3.length : Int) == p2)) (by kernel_rfl) (fun _ => by kernel_rfl) ?_
               refine T.nil ?_
               refine T.cond ((x3.length : Int) == p2) (by kernel_rfl) (by kernel_rfl) (fun hc5 => ?_) (fun hc5 => ?_)
               ·
                rw [hc5, cond_true] at hX4
                refine T.exit ?_
                cases hX4
                repeat first | refine T.unthenX ?_ | refine T.unblockX rfl ?_
                exact T.roundExit (.exit 0) [] 0 6 ((box b11 39 [.int .i64 e2.key.pfs, .int .i64 e2.key.obj, .int .i64 e2.key.off, .int .i64 e2.made, .int .i64 e2.gone, .string e2.val]) :: (box b10 39 [.int .i64 e2.key.pfs, .int .i64 e2.key.obj, .int .i64 e2.key.off, .int .i64 e2.made, .int .i64 e2.gone, .string e2.val]) :: (box b9 57 [.int .i64 e1.kind, .slice A6 e1.elems.length c6, .slice A7 e1.kids.length c7, .slice A8 e1.seps.length c8, .slice A9 e1.tids.length c9]) :: (box b8 36 [.int .i64 p1.key.pfs, .int .i64 p1.key.obj, .int .i64 p1.key.off, .int .i64 p1.made]) :: (box b7 24 [.int .i64 p0.root, .slice A1 p0.nodes.length c1]) :: (row 39 eElem A10 c10 x3) :: (loopo l1 lr1 (.exit 0) [] (0 + 1)) :: (marko d1) :: (box b4 29 [.slice A10 x3.length c10]) :: (box b3 3 [.int .i64 p2]) :: G2) (by rfl) rfl rfl (fun w' hh => ⟨_, rfl, Exists.intro x3 (Exists.intro (0 + 1) (And.intro rfl (Exists.intro A10 (Exists.intro c10 (And.intro rfl (hh.sub (.cons _ (.cons_cons _ (.cons_cons _ (.cons_cons _ (.cons_cons _ (.cons_cons _ (.cons_cons _ (.cons_cons _ (.cons_cons _ (.cons_cons _ (List.Sublist.refl _)))))))))))))))))⟩)
               ·
                rw [hc5, cond_false] at hX4
                refine T.skip_code ?_
                refine T.region ?_
                refine T.look (.slice A10 x3.length c10) (by kernel_rfl) (fun w' hh => exec_load1 rfl rfl (by kernel_rfl) (hh.cellBox (i := 8) (by rfl) 0)) ?_
                refine T.look (.agg #[.int .i64 e2.key.pfs, .int .i64 e2.key.obj, .int .i64 e2.key.off, .int .i64 e2.made, .int .i64 e2.gone, .string e2.val]) (by kernel_rfl) (fun w' hh => exec_loadN (cs := [.int .i64 e2.key.pfs, .int .i64 e2.key.obj, .int .i64 e2.key.off, .int .i64 e2.made, .int .i64 e2.gone, .string e2.val]) rfl rfl (by kernel_rfl) (by kernel_rfl) (fun j u hj => (hh.box_at (i := 0) (cs := [.int .i64 e2.key.pfs, .int .i64 e2.key.obj, .int .i64 e2.key.off, .int .i64 e2.made, .int .i64 e2.gone, .string e2.val]) (by rfl) 0 j).trans (seg_at (n := 6) (by rfl) hj))) ?_
                refine T.step (W1.new 39 [.int .i64 e2.key.pfs, .int .i64 e2.key.obj, .int .i64 e2.key.off, .int .i64 e2.made, .int .i64 e2.gone, .string e2.val] (fun b => .slice (some ⟨b, 0, none⟩) 1 1) (by kernel_rfl) (fun _ => by kernel_rfl) (fun b12 => ?_))
                obtain ⟨y2, hb6, hX4⟩ := Option.bind_eq_some_iff.1 hX4
                obtain ⟨hb6_r, hb6_m, rfl⟩ := grow_some hb6
                obtain ⟨ti, hti, hz1, hz2, hz3⟩ := info_parts (P := Try.prog) (e := 39) (z := .agg #[.int .i64 0, .int .i64 0, .int .i64 0, .int .i64 0, .int .i64 0, .string (ByteArray.mk #[])]) (size := 6) (bytes := 56) (by kernel_rfl)
                refine T.step (W1.append (E := eElem) (l := x3) (m := [e2]) 6 _ _ 56 ti _ (by rfl) (by kernel_rfl) rfl (by kernel_rfl) hti hz1 hz2 hz3 rfl (by decide) rfl rfl (fun w' hh => (SlOk.srcF (slok_lit (E := eElem) (f := DElem.cells) [e2] (fun _ _ => rfl) (Nat.le_of_ble_eq_true (by rfl)) (fun j => hh.cellBox (i := 0) (by rfl) j)) (fun _ _ _ _ h => h))) hb6_r hb6_m (fun A14 c14 => ?_))
                refine T.step (W1.store 9 [.slice A14 ((x3 ++ [e2]).length) c14] ((box b12 39 [.int .i64 e2.key.pfs, .int .i64 e2.key.obj, .int .i64 e2.key.off, .int .i64 e2.made, .int .i64 e2.gone, .string e2.val]) :: (box b11 39 [.int .i64 e2.key.pfs, .int .i64 e2.key.obj, .int .i64 e2.key.off, .int .i64 e2.made, .int .i64 e2.gone, .string e2.val]) :: (box b10 39 [.int .i64 e2.key.pfs, .int .i64 e2.key.obj, .int .i64 e2.key.off, .int .i64 e2.made, .int .i64 e2.gone, .string e2.val]) :: (box b9 57 [.int .i64 e1.kind, .slice A6 e1.elems.length c6, .slice A7 e1.kids.length c7, .slice A8 e1.seps.length c8, .slice A9 e1.tids.length c9]) :: (box b8 36 [.int .i64 p1.key.pfs, .int .i64 p1.key.obj, .int .i64 p1.key.off, .int .i64 p1.made]) :: (box b7 24 [.int .i64 p0.root, .slice A1 p0.nodes.length c1]) :: (row 39 eElem A14 c14 (x3 ++ [e2])) :: (busyo l1 lr1) :: (marko d1) :: (box b4 29 [.slice A14 ((x3 ++ [e2]).length) c14]) :: (box b3 3 [.int .i64 p2]) :: G2) (by rfl) rfl (by kernel_rfl) (fun w' hw => exec_store (vs := [.slice A14 ((x3 ++ [e2]).length) c14]) rfl rfl rfl rfl (by kernel_rfl) (one_of rfl) (by simp) rfl hw) ?_)
                refine T.nil ?_
                cases hX4
                repeat first | refine T.unthenN ?_ | refine T.unblockN ?_
                exact T.roundEnd (.exit 0) [] 7 ((box b12 39 [.int .i64 e2.key.pfs, .int .i64 e2.key.obj, .int .i64 e2.key.off, .int .i64 e2.made, .int .i64 e2.gone, .string e2.val]) :: (box b11 39 [.int .i64 e2.key.pfs, .int .i64 e2.key.obj, .int .i64 e2.key.off, .int .i64 e2.made, .int .i64 e2.gone, .string e2.val]) :: (box b10 39 [.int .i64 e2.key.pfs, .int .i64 e2.key.obj, .int .i64 e2.key.off, .int .i64 e2.made, .int .i64 e2.gone, .string e2.val]) :: (box b9 57 [.int .i64 e1.kind, .slice A6 e1.elems.length c6, .slice A7 e1.kids.length c7, .slice A8 e1.seps.length c8, .slice A9 e1.tids.length c9]) :: (box b8 36 [.int .i64 p1.key.pfs, .int .i64 p1.key.obj, .int .i64 p1.key.off, .int .i64 p1.made]) :: (box b7 24 [.int .i64 p0.root, .slice A1 p0.nodes.length c1]) :: (row 39 eElem A14 c14 (x3 ++ [e2])) :: (loopo l1 lr1 (.exit 0) [] 0) :: (marko d1) :: (box b4 29 [.slice A14 ((x3 ++ [e2]).length) c14]) :: (box b3 3 [.int .i64 p2]) :: G2) (by rfl) rfl (fun w' hh => ⟨_, rfl, Exists.intro (x3 ++ [e2]) (Exists.intro 0 (And.intro rfl (Exists.intro A14 (Exists.intro c14 (And.intro rfl (hh.sub (.cons _ (.cons _ (.cons_cons _ (.cons_cons _ (.cons_cons _ (.cons_cons _ (.cons_cons _ (.cons_cons _ (.cons_cons _ (.cons_cons _ (.cons_cons _ (List.Sublist.refl _))))))))))))))))))⟩)
              ·
               rintro v w' ⟨z6, k4, rfl, A13, c13, rfl, hh⟩
               try dsimp only at hX3
               refine ⟨V10, ((box b10 39 [.int .i64 e2.key.pfs, .int .i64 e2.key.obj, .int .i64 e2.key.off, .int .i64 e2.made, .int .i64 e2.gone, .string e2.val]) :: (box b9 57 [.int .i64 e1.kind, .slice A6 e1.elems.length c6, .slice A7 e1.kids.length c7, .slice A8 e1.seps.length c8, .slice A9 e1.tids.length c9]) :: (box b8 36 [.int .i64 p1.key.pfs, .int .i64 p1.key.obj, .int .i64 p1.key.off, .int .i64 p1.made]) :: (box b7 24 [.int .i64 p0.root, .slice A1 p0.nodes.length c1]) :: (row 39 eElem A13 c13 z6) :: (loopo l1 lr1 (.exit 0) [] k4) :: (marko d1) :: (box b4 29 [.slice A13 z6.length c13]) :: (box b3 3 [.int .i64 p2]) :: G2), hh, ?_⟩
               clear hh
               cases k4 with
               | zero =>
                rw [natCase_zero] at hX3
                refine TI.all [9] (by kernel_rfl) rfl ⟨?_, trivial⟩
                refine TI.br rfl (W1.toR (W1.look (.bool false) (by kernel_rfl) (fun _ _ => by kernel_rfl) ?_))
                refine TI.all [10] (by kernel_rfl) rfl ⟨?_, trivial⟩
                refine TI.br rfl (W1.toR (W1.look (.bool false) (by kernel_rfl) (fun _ _ => by kernel_rfl) ?_))
                refine TI.done (by kernel_rfl) ?_
                cases hX3
                exact fun a w' hf hh => Exists.intro z6 (Exists.intro 0 (And.intro rfl (Exists.intro A13 (Exists.intro c13 (Exists.intro V10 (And.intro (View.le_trans hV9 hV10) (And.intro (((((((((Fr.nil hf).pick hf 36 rfl).pick hf 22 rfl).pick hf 21 rfl).pick hf 20 rfl).pick hf 9 rfl).pick hf 6 rfl).pick hf 4 rfl).pick hf 3 rfl) (hh.sub (.cons _ (.cons_cons _ (.cons_cons _ (.cons_cons _ (.cons_cons _ (.cons_cons _ (.cons_cons _ (.cons_cons _ (.cons_cons _ (List.Sublist.refl _))))))))))))))))))
               | succ k5 =>
                rw [natCase_succ] at hX3
                refine TI.all [9] (by kernel_rfl) rfl ⟨?_, trivial⟩
                refine TI.br rfl (W1.toR (W1.look (.bool true) (by kernel_rfl) (fun _ _ => by kernel_rfl) ?_))
                refine TI.all [10] (by kernel_rfl) rfl ⟨?_, trivial⟩
                refine TI.br rfl (W1.toR (W1.look (.bool true) (by kernel_rfl) (fun _ _ => by kernel_rfl) ?_))
                refine TI.done (by kernel_rfl) ?_
                cases hX3
                exact fun a w' hf hh => Exists.intro z6 (Exists.intro (k5 + 1) (And.intro rfl (Exists.intro A13 (Exists.intro c13 (Exists.intro V10 (And.intro (View.le_trans hV9 hV10) (And.intro (((((((((Fr.nil hf).pick hf 36 rfl).pick hf 22 rfl).pick hf 21 rfl).pick hf 20 rfl).pick hf 9 rfl).pick hf 6 rfl).pick hf 4 rfl).pick hf 3 rfl) (hh.sub (.cons _ (.cons_cons _ (.cons_cons _ (.cons_cons _ (.cons_cons _ (.cons_cons _ (.cons_cons _ (.cons_cons _ (.cons_cons _ (List.Sublist.refl _))))))))))))))))))
          ·
           rintro a w' ⟨z5, k3, rfl, A12, c12, V8, hV8, hf, hh⟩
           try dsimp only at hY1
           refine (?_ : T 59 w V8 ((box b9 57 [.int .i64 e1.kind, .slice A6 e1.elems.length c6, .slice A7 e1.kids.length c7, .slice A8 e1.seps.length c8, .slice A9 e1.tids.length c9]) :: (box b8 36 [.int .i64 p1.key.pfs, .int .i64 p1.key.obj, .int .i64 p1.key.off, .int .i64 p1.made]) :: (box b7 24 [.int .i64 p0.root, .slice A1 p0.nodes.length c1]) :: (row 39 eElem A12 c12 z5) :: (loopo l1 lr1 (.exit 0) [] k3) :: (marko d1) :: (box b4 29 [.slice A12 z5.length c12]) :: (box b3 3 [.int .i64 p2]) :: G2) [(3, .func (.yield l1) #[] #[]), (4, .pointer (some ⟨b7, 0, none⟩)), (6, .pointer (some ⟨b8, 0, none⟩)), (9, .pointer (some ⟨b9, 0, none⟩)), (20, .slice A6 e1.elems.length c6), (21, .int .i64 (e1.elems.length : Int)), (22, .int .i64 x4), (36, .bool (!(isz k3)))] _) a w' hf hh
           clear hf hh
           cases k3 with
           | zero =>
            rw [natCase_zero] at hY1
            refine T.cond false (by kernel_rfl) (by kernel_rfl) (fun h => Bool.noConfusion h) (fun _ => ?_)
            refine T.skip_code ?_
            refine T.region ?_
            refine T.pure (.int .i64 (IntKind.i64.wrap (x4 + 1))) (by kernel_rfl) (fun _ => by kernel_rfl) ?_
            refine T.pure (.int .i64 (IntKind.i64.wrap (x4 + 1))) (by kernel_rfl) (fun _ => by kernel_rfl) ?_
            refine T.nil ?_
            cases hY1
            exact fun a w' hf hh => Exists.intro (z5, IntKind.i64.wrap (x4 + 1)) (And.intro rfl (Exists.intro z5 (Exists.intro (IntKind.i64.wrap (x4 + 1)) (And.intro rfl (Exists.intro A12 (Exists.intro c12 (Exists.intro V8 (And.intro (View.le_trans hV6 hV8) (And.intro ((((((((Fr.nil hf).pick hf 22 rfl).pick hf 21 rfl).pick hf 20 rfl).pick hf 9 rfl).pick hf 6 rfl).pick hf 4 rfl).pick hf 3 rfl) (hh.sub (.cons_cons _ (.cons_cons _ (.cons_cons _ (.cons_cons _ (.cons_cons _ (.cons_cons _ (.cons_cons _ (.cons_cons _ (List.Sublist.refl _)))))))))))))))))))
           | succ k6 =>
            rw [natCase_succ] at hY1
            refine T.cond true (by kernel_rfl) (by kernel_rfl) (fun _ => ?_) (fun h => Bool.noConfusion h)
            refine T.seq ?_
            refine T.region ?_
            refine T.pure (.bool false) (by kernel_rfl) (fun _ => by kernel_rfl) ?_
            refine T.nil ?_
            cases hY1
            cases (hr2 _ rfl)
            try dsimp only at hS1
            have hres := Option.some.inj hS1
            subst hres
            refine T.ret rfl ?_
            repeat first | refine T.unthen ?_ | refine T.unblock ?_
            exact T.ret1 rfl (ResIs.tmp rfl) fun w' hh => ⟨_, rfl, Exists.intro z5 (Exists.intro (k6 + 1) (And.intro rfl (Exists.intro A12 (Exists.intro c12 (Exists.intro V8 (And.intro (View.le_trans hV6 hV8) (And.intro rfl (hh.sub (.cons _ (.cons _ (.cons _ (.cons_cons _ (.cons_cons _ (.cons_cons _ (.cons_cons _ (.cons_cons _ (List.Sublist.refl _)))))))))))))))))⟩
         ·
          rw [hc4, cond_false] at hY1
          refine T.exit ?_
          cases hY1
          cases (hr2 _ rfl)
          exact fun a w' hf hh => Exists.intro x3 (And.intro rfl (Exists.intro A10 (Exists.intro c10 (Exists.intro V6 (And.intro hV6 (And.intro (((((Fr.nil hf).pick hf 9 rfl).pick hf 6 rfl).pick hf 4 rfl).pick hf 3 rfl) (hh.sub (.cons_cons _ (.cons_cons _ (.cons_cons _ (.cons_cons _ (.cons_cons _ (.cons_cons _ (.cons_cons _ (.cons_cons _ (List.Sublist.refl _))))))))))))))))
       ·
        rintro a w' ⟨z4, rfl, A11, c11, V7, hV7, hf, hh⟩
        try dsimp only at hS1
        refine (?_ : T 59 w V7 ((box b9 57 [.int .i64 e1.kind, .slice A6 e1.elems.length c6, .slice A7 e1.kids.length c7, .slice A8 e1.seps.length c8, .slice A9 e1.tids.length c9]) :: (box b8 36 [.int .i64 p1.key.pfs, .int .i64 p1.key.obj, .int .i64 p1.key.off, .int .i64 p1.made]) :: (box b7 24 [.int .i64 p0.root, .slice A1 p0.nodes.length c1]) :: (row 39 eElem A11 c11 z4) :: (loopo l1 lr1 (.exit 0) [] 0) :: (marko d1) :: (box b4 29 [.slice A11 z4.length c11]) :: (box b3 3 [.int .i64 p2]) :: G2) [(3, .func (.yield l1) #[] #[]), (4, .pointer (some ⟨b7, 0, none⟩)), (6, .pointer (some ⟨b8, 0, none⟩)), (9, .pointer (some ⟨b9, 0, none⟩))] _) a w' hf hh
        clear hf hh
        refine T.seq ?_
        refine T.seq ?_
        refine T.region ?_
        refine T.pure (.pointer (some ⟨b9, 0, none⟩)) (by kernel_rfl) (fun _ => by kernel_rfl) ?_
        refine T.look (.int .i64 e1.kind) (by kernel_rfl) (fun w' hh => exec_load1 rfl rfl (by kernel_rfl) (hh.cellBox (i := 0) (by rfl) 0)) ?_
        refine T.pure (.bool (e1.kind == 1)) (by kernel_rfl) (fun _ => by kernel_rfl) ?_
        refine T.nil ?_
        refine T.cond (e1.kind == 1) (by kernel_rfl) (by kernel_rfl) (fun hc6 => ?_) (fun hc6 => ?_)
        ·
         rw [hc6, cond_true] at hS1
         refine T.seq ?_
         refine T.region ?_
         refine T.pure (.bool true) (by kernel_rfl) (fun _ => by kernel_rfl) ?_
         refine T.nil ?_
         have hres := Option.some.inj hS1
         subst hres
         refine T.ret rfl ?_
         repeat first | refine T.unthen ?_ | refine T.unblock ?_
         exact T.ret1 rfl (ResIs.tmp rfl) fun w' hh => ⟨_, rfl, Exists.intro z4 (Exists.intro 0 (And.intro rfl (Exists.intro A11 (Exists.intro c11 (Exists.intro V7 (And.intro hV7 (And.intro rfl (hh.sub (.cons _ (.cons _ (.cons _ (.cons_cons _ (.cons_cons _ (.cons_cons _ (.cons_cons _ (.cons_cons _ (List.Sublist.refl _)))))))))))))))))⟩
        ·
         rw [hc6, cond_false] at hS1
         refine T.skip_code ?_
         refine T.seq ?_
         refine T.seq ?_
         refine T.quiet (by kernel_rfl) (by kernel_rfl) ?_
         refine TQ.pure (.pointer (some ⟨b9, 2, none⟩)) (by kernel_rfl) (fun _ => by kernel_rfl) ?_
         refine TQ.look (.slice A7 e1.kids.length c7) (by kernel_rfl) (fun w' hh => exec_load1 rfl rfl (by kernel_rfl) (hh.cellBox (i := 0) (by rfl) 2)) ?_
         refine TQ.look (.agg #[.int .i64 e1.kind, .slice A6 e1.elems.length c6, .slice A7 e1.kids.length c7, .slice A8 e1.seps.length c8, .slice A9 e1.tids.length c9]) (by kernel_rfl) (fun w' hh => exec_loadN (cs := [.int .i64 e1.kind, .slice A6 e1.elems.length c6, .slice A7 e1.kids.length c7, .slice A8 e1.seps.length c8, .slice A9 e1.tids.length c9]) rfl rfl (by kernel_rfl) (by kernel_rfl) (fun j u hj => (hh.box_at (i := 0) (cs := [.int .i64 e1.kind, .slice A6 e1.elems.length c6, .slice A7 e1.kids.length c7, .slice A8 e1.seps.length c8, .slice A9 e1.tids.length c9]) (by rfl) 0 j).trans (seg_at (n := 5) (by rfl) hj))) ?_
         refine TQ.look (.agg #[.int .i64 p1.key.pfs, .int .i64 p1.key.obj, .int .i64 p1.key.off, .int .i64 p1.made]) (by kernel_rfl) (fun w' hh => exec_loadN (cs := [.int .i64 p1.key.pfs, .int .i64 p1.key.obj, .int .i64 p1.key.off, .int .i64 p1.made]) rfl rfl (by kernel_rfl) (by kernel_rfl) (fun j u hj => (hh.box_at (i := 1) (cs := [.int .i64 p1.key.pfs, .int .i64 p1.key.obj, .int .i64 p1.key.off, .int .i64 p1.made]) (by rfl) 0 j).trans (seg_at (n := 4) (by rfl) hj))) ?_
         obtain ⟨r5, hb7, hS1⟩ := Option.bind_eq_some_iff.1 hS1
         refine TQ.call (vSc eInt) r5 61 #[.agg #[.int .i64 e1.kind, .slice A6 e1.elems.length c6, .slice A7 e1.kids.length c7, .slice A8 e1.seps.length c8, .slice A9 e1.tids.length c9], .agg #[.int .i64 p1.key.pfs, .int .i64 p1.key.obj, .int .i64 p1.key.off, .int .i64 p1.made]] (.int .i64 r5) (fun V u hu => sureInt V u _ hu) (by kernel_rfl) (fun _ => by kernel_rfl) (fun w' hh => node_Way_l F e1 p1 r5 hb7 w' A6 c6 (SlOk.mono (SlOk.mono hs2 hV7) hh.view) A7 c7 (SlOk.mono (SlOk.mono hs3 hV7) hh.view) A8 c8 (SlOk.mono (SlOk.mono hs4 hV7) hh.view) A9 c9 (SlOk.mono (SlOk.mono hs5 hV7) hh.view)) ?_
         obtain ⟨s2, hb8, hS1⟩ := Option.bind_eq_some_iff.1 hS1
         refine TQ.look (.slice (cutA A7 c7 r5.toNat 1) s2.length (c7 - r5.toNat)) (by kernel_rfl) (fun w' hh => exec_slice_list (e := 3) (s := 1) (lx := (some _)) (hx := none) (k := .i64) (k' := .i64) rfl rfl (by kernel_rfl) (by kernel_rfl) ((SlOk.mono hs3 hV7)).1 rfl rfl hb8) ?_
         refine TQ.pure (.int .i64 (s2.length : Int)) (by kernel_rfl) (fun _ => by kernel_rfl) ?_
         refine TQ.pure (.int .i64 0) (by kernel_rfl) (fun _ => by kernel_rfl) ?_
         refine TQ.nil ?_
         obtain ⟨q6, hz3, hS1⟩ := Option.bind_eq_some_iff.1 hS1
         refine T.mid (fun a w' => ∃ (z7 : List DElem), q6 = Sum.inl z7 ∧ ∃ (A17 : Option Addr) (c17 : Nat) (V12 : View), View.le V7 V12 ∧ Fr 59 [] a ∧ Hp w V12 ((row 39 eElem A17 c17 z7) :: (loopo l1 lr1 (.exit 0) [] 0) :: (marko d1) :: (box b4 29 [.slice A17 z7.length c17]) :: (box b3 3 [.int .i64 p2]) :: G2) w') ?_ ?_
         ·
          refine T.block ?_
          refine T.iter (fun s3 a w' => ∃ (x5 : List DElem) (x6 : Int), s3 = (x5, x6) ∧ ∃ (A15 : Option Addr) (c15 : Nat) (A16 : Option Addr) (c16 : Nat) (V11 : View), View.le V7 V11 ∧ SlOk V11 eInt A16 c16 s2 ∧ Fr 59 [(3, .func (.yield l1) #[] #[]), (4, .pointer (some ⟨b7, 0, none⟩)), (6, .pointer (some ⟨b8, 0, none⟩)), (46, .slice A16 s2.length c16), (47, .int .i64 (s2.length : Int)), (48, .int .i64 x6)] a ∧ Hp w V11 ((box b8 36 [.int .i64 p1.key.pfs, .int .i64 p1.key.obj, .int .i64 p1.key.off, .int .i64 p1.made]) :: (box b7 24 [.int .i64 p0.root, .slice A1 p0.nodes.length c1]) :: (row 39 eElem A15 c15 x5) :: (loopo l1 lr1 (.exit 0) [] 0) :: (marko d1) :: (box b4 29 [.slice A15 x5.length c15]) :: (box b3 3 [.int .i64 p2]) :: G2) w') hz3 ?_ ?_
          ·
           exact fun a w' hf hh => Exists.intro z4 (Exists.intro 0 (And.intro rfl (Exists.intro A11 (Exists.intro c11 (Exists.intro (cutA A7 c7 r5.toNat 1) (Exists.intro (c7 - r5.toNat) (Exists.intro V7 (And.intro (View.le_refl _) (And.intro (SlOk.cut (SlOk.mono hs3 hV7) hb8) (And.intro (((((((Fr.nil hf).pick hf 48 rfl).pick hf 47 rfl).pick hf 46 rfl).pick hf 6 rfl).pick hf 4 rfl).pick hf 3 rfl) (hh.sub (.cons _ (.cons_cons _ (.cons_cons _ (.cons_cons _ (.cons_cons _ (.cons_cons _ (.cons_cons _ (.cons_cons _ (List.Sublist.refl _))))))))))))))))))))
          ·
           rintro s3 y3 hY2 hr3 a w' ⟨x5, x6, rfl, A15, c15, A16, c16, V11, hV11, hs6, hf, hh⟩
           refine (?_ : T 59 w V11 ((box b8 36 [.int .i64 p1.key.pfs, .int .i64 p1.key.obj, .int .i64 p1.key.off, .int .i64 p1.made]) :: (box b7 24 [.int .i64 p0.root, .slice A1 p0.nodes.length c1]) :: (row 39 eElem A15 c15 x5) :: (loopo l1 lr1 (.exit 0) [] 0) :: (marko d1) :: (box b4 29 [.slice A15 x5.length c15]) :: (box b3 3 [.int .i64 p2]) :: G2) [(3, .func (.yield l1) #[] #[]), (4, .pointer (some ⟨b7, 0, none⟩)), (6, .pointer (some ⟨b8, 0, none⟩)), (46, .slice A16 s2.length c16), (47, .int .i64 (s2.length : Int)), (48, .int .i64 x6)] _) a w' hf hh
           clear hf hh
           try dsimp only at hY2
           refine T.seq ?_
           refine T.region ?_
           refine T.pure (.bool (decide (x6 < (s2.length : Int)))) (by kernel_rfl) (fun _ => by kernel_rfl) ?_
           refine T.nil ?_
           refine T.seq ?_
           refine T.cond (decide (x6 < (s2.length : Int))) (by kernel_rfl) (by kernel_rfl) (fun hc7 => ?_) (fun hc7 => ?_)
           ·
            rw [hc7, cond_true] at hY2
            refine T.skip_code ?_
            refine T.seq ?_
            refine T.block ?_
            refine T.seq ?_
            refine T.region ?_
            obtain ⟨e3, hb9, hY2⟩ := Option.bind_eq_some_iff.1 hY2
            obtain ⟨hi7, hi8, hi9⟩ := idx_some hb9
            refine T.look (.pointer (some ((sadr A16).add (x6.toNat * 1)))) (by kernel_rfl) (fun w' hh => exec_indexAddr (e := 3) (s := 1) rfl rfl rfl (by kernel_rfl) (by kernel_rfl) hi7 hi8 (hs6.some_ hi9 (by decide))) ?_
            refine T.look (.int .i64 e3) (by kernel_rfl) (fun w' hh => exec_load1 rfl rfl (by kernel_rfl) (hh.cell_view (SlOk.cellF0 (E := eInt) hs6 hi9 (fun _ _ _ h => h) rfl))) ?_
            refine T.pure (.int .i64 e3) (by kernel_rfl) (fun _ => by kernel_rfl) ?_
            refine T.nil ?_
            obtain ⟨q7, hX5, hY2⟩ := Option.bind_eq_some_iff.1 hY2
            refine T.cut (fun a w' => ∃ (z8 : List DElem) (k7 : Nat), q7 = (z8, k7) ∧ ∃ (A18 : Option Addr) (c18 : Nat) (V13 : View), View.le V11 V13 ∧ Fr 59 [(3, .func (.yield l1) #[] #[]), (4, .pointer (some ⟨b7, 0, none⟩)), (6, .pointer (some ⟨b8, 0, none⟩)), (46, .slice A16 s2.length c16), (47, .int .i64 (s2.length : Int)), (48, .int .i64 x6), (57, .bool (!(isz k7)))] a ∧ Hp w V13 ((box b8 36 [.int .i64 p1.key.pfs, .int .i64 p1.key.obj, .int .i64 p1.key.off, .int .i64 p1.made]) :: (box b7 24 [.int .i64 p0.root, .slice A1 p0.nodes.length c1]) :: (row 39 eElem A18 c18 z8) :: (loopo l1 lr1 (.exit 0) [] k7) :: (marko d1) :: (box b4 29 [.slice A18 z8.length c18]) :: (box b3 3 [.int .i64 p2]) :: G2) w') ?_ ?_
            ·
             refine T.region ?_
             refine T.look (.agg #[.int .i64 p0.root, .slice A1 p0.nodes.length c1]) (by kernel_rfl) (fun w' hh => exec_loadN (cs := [.int .i64 p0.root, .slice A1 p0.nodes.length c1]) rfl rfl (by kernel_rfl) (by kernel_rfl) (fun j u hj => (hh.box_at (i := 1) (cs := [.int .i64 p0.root, .slice A1 p0.nodes.length c1]) (by rfl) 0 j).trans (seg_at (n := 2) (by rfl) hj))) ?_
             refine T.pure (.int .i64 e3) (by kernel_rfl) (fun _ => by kernel_rfl) ?_
             refine T.look (.agg #[.int .i64 p1.key.pfs, .int .i64 p1.key.obj, .int .i64 p1.key.off, .int .i64 p1.made]) (by kernel_rfl) (fun w' hh => exec_loadN (cs := [.int .i64 p1.key.pfs, .int .i64 p1.key.obj, .int .i64 p1.key.off, .int .i64 p1.made]) rfl rfl (by kernel_rfl) (by kernel_rfl) (fun j u hj => (hh.box_at (i := 0) (cs := [.int .i64 p1.key.pfs, .int .i64 p1.key.obj, .int .i64 p1.key.off, .int .i64 p1.made]) (by rfl) 0 j).trans (seg_at (n := 4) (by rfl) hj))) ?_
             refine T.pure (.func (.yield l1) #[] #[]) (by kernel_rfl) (fun _ => by kernel_rfl) ?_
             obtain ⟨q8, hz4, hX5⟩ := Option.bind_eq_some_iff.1 hX5
             refine T.step (W1.callI 57 [.agg #[.int .i64 p0.root, .slice A1 p0.nodes.length c1], .int .i64 e3, .agg #[.int .i64 p1.key.pfs, .int .i64 p1.key.obj, .int .i64 p1.key.off, .int .i64 p1.made], .func (.yield l1) #[] #[]] (fun v w' => ∃ (z9 : List DElem) (z10 : Nat), q8 = (z9, z10) ∧ ∃ (A19 : Option Addr) (c19 : Nat) (V14 : View), View.le V11 V14 ∧ v = .bool (isz z10) ∧ Hp w V14 ((row 39 eElem A19 c19 z9) :: (loopo l1 lr1 (.exit 0) [] z10) :: (marko d1) :: (box b4 29 [.slice A19 z9.length c19]) :: (box b3 3 [.int .i64 p2]) :: (box b8 36 [.int .i64 p1.key.pfs, .int .i64 p1.key.obj, .int .i64 p1.key.off, .int .i64 p1.made]) :: (box b7 24 [.int .i64 p0.root, .slice A1 p0.nodes.length c1]) :: G2) w') (by kernel_rfl) (fun _ => by kernel_rfl) (fun w' hh => ih1 _ _ hz4 x5 e3 rfl A15 c15 V11 ((box b8 36 [.int .i64 p1.key.pfs, .int .i64 p1.key.obj, .int .i64 p1.key.off, .int .i64 p1.made]) :: (box b7 24 [.int .i64 p0.root, .slice A1 p0.nodes.length c1]) :: G2) w' (View.le_trans (View.le_trans hV4 hV7) hV11) ((hh.sub (.cons_cons _ (.cons_cons _ (.cons_cons _ (.cons_cons _ (.cons_cons _ (.cons_cons _ (.cons_cons _ (List.Sublist.refl _))))))))).perm (List.Perm.trans (List.Perm.cons _ (List.Perm.swap _ _ _)) (List.Perm.trans (List.Perm.swap _ _ _) (List.Perm.cons _ (List.Perm.trans (List.Perm.cons _ (List.Perm.swap _ _ _)) (List.Perm.trans (List.Perm.swap _ _ _) (List.Perm.cons _ (List.Perm.trans (List.Perm.cons _ (List.Perm.swap _ _ _)) (List.Perm.trans (List.Perm.swap _ _ _) (List.Perm.cons _ (List.Perm.trans (List.Perm.cons _ (List.Perm.swap _ _ _)) (List.Perm.trans (List.Perm.swap _ _ _) (List.Perm.cons _ (List.Perm.trans (List.Perm.cons _ (List.Perm.swap _ _ _)) (List.Perm.trans (List.Perm.swap _ _ _) (List.Perm.refl _))))))))))))))))) ?_)
             rintro v w' ⟨z9, z10, rfl, A19, c19, V14, hV14, rfl, hh⟩
             try dsimp only at hX5
             refine ⟨V14, ((box b8 36 [.int .i64 p1.key.pfs, .int .i64 p1.key.obj, .int .i64 p1.key.off, .int .i64 p1.made]) :: (box b7 24 [.int .i64 p0.root, .slice A1 p0.nodes.length c1]) :: (row 39 eElem A19 c19 z9) :: (loopo l1 lr1 (.exit 0) [] z10) :: (marko d1) :: (box b4 29 [.slice A19 z9.length c19]) :: (box b3 3 [.int .i64 p2]) :: G2), (hh.sub (.cons_cons _ (.cons_cons _ (.cons_cons _ (.cons_cons _ (.cons_cons _ (.cons_cons _ (.cons_cons _ (List.Sublist.refl _))))))))).perm (List.Perm.trans (List.Perm.cons _ (List.Perm.cons _ (List.Perm.cons _ (List.Perm.cons _ (List.Perm.swap _ _ _))))) (List.Perm.trans (List.Perm.cons _ (List.Perm.cons _ (List.Perm.cons _ (List.Perm.swap _ _ _)))) (List.Perm.trans (List.Perm.cons _ (List.Perm.cons _ (List.Perm.swap _ _ _))) (List.Perm.trans (List.Perm.cons _ (List.Perm.swap _ _ _)) (List.Perm.trans (List.Perm.swap _ _ _) (List.Perm.cons _ (List.Perm.trans (List.Perm.cons _ (List.Perm.cons _ (List.Perm.cons _ (List.Perm.cons _ (List.Perm.swap _ _ _))))) (List.Perm.trans (List.Perm.cons _ (List.Perm.cons _ (List.Perm.cons _ (List.Perm.swap _ _ _)))) (List.Perm.trans (List.Perm.cons _ (List.Perm.cons _ (List.Perm.swap _ _ _))) (List.Perm.trans (List.Perm.cons _ (List.Perm.swap _ _ _)) (List.Perm.trans (List.Perm.swap _ _ _) (List.Perm.refl _)))))))))))), ?_⟩
             clear hh
             cases z10 with
             | zero =>
              rw [natCase_zero] at hX5
              refine T.pure (.bool false) (by kernel_rfl) (fun _ => by kernel_rfl) ?_
              refine T.nil ?_
              cases hX5
              exact fun a w' hf hh => Exists.intro z9 (Exists.intro 0 (And.intro rfl (Exists.intro A19 (Exists.intro c19 (Exists.intro V14 (And.intro hV14 (And.intro ((((((((Fr.nil hf).pick hf 57 rfl).pick hf 48 rfl).pick hf 47 rfl).pick hf 46 rfl).pick hf 6 rfl).pick hf 4 rfl).pick hf 3 rfl) (hh.sub (.cons_cons _ (.cons_cons _ (.cons_cons _ (.cons_cons _ (.cons_cons _ (.cons_cons _ (.cons_cons _ (List.Sublist.refl _))))))))))))))))
             | succ k8 =>
              rw [natCase_succ] at hX5
              refine T.pure (.bool true) (by kernel_rfl) (fun _ => by kernel_rfl) ?_
              refine T.nil ?_
              cases hX5
              exact fun a w' hf hh => Exists.intro z9 (Exists.intro (k8 + 1) (And.intro rfl (Exists.intro A19 (Exists.intro c19 (Exists.intro V14 (And.intro hV14 (And.intro ((((((((Fr.nil hf).pick hf 57 rfl).pick hf 48 rfl).pick hf 47 rfl).pick hf 46 rfl).pick hf 6 rfl).pick hf 4 rfl).pick hf 3 rfl) (hh.sub (.cons_cons _ (.cons_cons _ (.cons_cons _ (.cons_cons _ (.cons_cons _ (.cons_cons _ (.cons_cons _ (List.Sublist.refl _))))))))))))))))
            ·
             rintro a w' ⟨z8, k7, rfl, A18, c18, V13, hV13, hf, hh⟩
             try dsimp only at hY2
             refine (?_ : T 59 w V13 ((box b8 36 [.int .i64 p1.key.pfs, .int .i64 p1.key.obj, .int .i64 p1.key.off, .int .i64 p1.made]) :: (box b7 24 [.int .i64 p0.root, .slice A1 p0.nodes.length c1]) :: (row 39 eElem A18 c18 z8) :: (loopo l1 lr1 (.exit 0) [] k7) :: (marko d1) :: (box b4 29 [.slice A18 z8.length c18]) :: (box b3 3 [.int .i64 p2]) :: G2) [(3, .func (.yield l1) #[] #[]), (4, .pointer (some ⟨b7, 0, none⟩)), (6, .pointer (some ⟨b8, 0, none⟩)), (46, .slice A16 s2.length c16), (47, .int .i64 (s2.length : Int)), (48, .int .i64 x6), (57, .bool (!(isz k7)))] _) a w' hf hh
             clear hf hh
             cases k7 with
             | zero =>
              rw [natCase_zero] at hY2
              refine T.cond false (by kernel_rfl) (by kernel_rfl) (fun h => Bool.noConfusion h) (fun _ => ?_)
              refine T.skip_code ?_
              refine T.region ?_
              refine T.pure (.int .i64 (IntKind.i64.wrap (x6 + 1))) (by kernel_rfl) (fun _ => by kernel_rfl) ?_
              refine T.pure (.int .i64 (IntKind.i64.wrap (x6 + 1))) (by kernel_rfl) (fun _ => by kernel_rfl) ?_
              refine T.nil ?_
              cases hY2
              exact fun a w' hf hh => Exists.intro (z8, IntKind.i64.wrap (x6 + 1)) (And.intro rfl (Exists.intro z8 (Exists.intro (IntKind.i64.wrap (x6 + 1)) (And.intro rfl (Exists.intro A18 (Exists.intro c18 (Exists.intro A16 (Exists.intro c16 (Exists.intro V13 (And.intro (View.le_trans hV11 hV13) (And.intro (SlOk.mono hs6 hV13) (And.intro (((((((Fr.nil hf).pick hf 48 rfl).pick hf 47 rfl).pick hf 46 rfl).pick hf 6 rfl).pick hf 4 rfl).pick hf 3 rfl) (hh.sub (.cons_cons _ (.cons_cons _ (.cons_cons _ (.cons_cons _ (.cons_cons _ (.cons_cons _ (.cons_cons _ (List.Sublist.refl _)))))))))))))))))))))
             | succ k9 =>
              rw [natCase_succ] at hY2
              refine T.cond true (by kernel_rfl) (by kernel_rfl) (fun _ => ?_) (fun h => Bool.noConfusion h)
              refine T.seq ?_
              refine T.region ?_
              refine T.pure (.bool false) (by kernel_rfl) (fun _ => by kernel_rfl) ?_
              refine T.nil ?_
              cases hY2
              cases (hr3 _ rfl)
              try dsimp only at hS1
              have hres := Option.some.inj hS1
              subst hres
              refine T.ret rfl ?_
              repeat first | refine T.unthen ?_ | refine T.unblock ?_
              exact T.ret1 rfl (ResIs.tmp rfl) fun w' hh => ⟨_, rfl, Exists.intro z8 (Exists.intro (k9 + 1) (And.intro rfl (Exists.intro A18 (Exists.intro c18 (Exists.intro V13 (And.intro (View.le_trans (View.le_trans hV7 hV11) hV13) (And.intro rfl (hh.sub (.cons _ (.cons _ (.cons_cons _ (.cons_cons _ (.cons_cons _ (.cons_cons _ (.cons_cons _ (List.Sublist.refl _))))))))))))))))⟩
           ·
            rw [hc7, cond_false] at hY2
            refine T.exit ?_
            cases hY2
            cases (hr3 _ rfl)
            exact fun a w' hf hh => Exists.intro x5 (And.intro rfl (Exists.intro A15 (Exists.intro c15 (Exists.intro V11 (And.intro hV11 (And.intro (Fr.nil hf) (hh.sub (.cons _ (.cons _ (.cons_cons _ (.cons_cons _ (.cons_cons _ (.cons_cons _ (.cons_cons _ (List.Sublist.refl _)))))))))))))))
         ·
          rintro a w' ⟨z7, rfl, A17, c17, V12, hV12, hf, hh⟩
          try dsimp only at hS1
          refine (?_ : T 59 w V12 ((row 39 eElem A17 c17 z7) :: (loopo l1 lr1 (.exit 0) [] 0) :: (marko d1) :: (box b4 29 [.slice A17 z7.length c17]) :: (box b3 3 [.int .i64 p2]) :: G2) [] _) a w' hf hh
          clear hf hh
          refine T.seq ?_
          refine T.region ?_
          refine T.pure (.bool true) (by kernel_rfl) (fun _ => by kernel_rfl) ?_
          refine T.nil ?_
          have hres := Option.some.inj hS1
          subst hres
          refine T.ret rfl ?_
          repeat first | refine T.unthen ?_ | refine T.unblock ?_
          exact T.ret1 rfl (ResIs.tmp rfl) fun w' hh => ⟨_, rfl, Exists.intro z7 (Exists.intro 0 (And.intro rfl (Exists.intro A17 (Exists.intro c17 (Exists.intro V12 (And.intro (View.le_trans hV7 hV12) (And.intro rfl (hh.sub (.cons_cons _ (.cons_cons _ (.cons_cons _ (.cons_cons _ (.cons_cons _ (List.Sublist.refl _))))))))))))))⟩
      ·
       refine T.step (W1.callI 57 [.agg #[.int .i64 p0.root, .slice A1 p0.nodes.length c1], .int .i64 p0.root, .agg #[.int .i64 p1.key.pfs, .int .i64 p1.key.obj, .int .i64 p1.key.off, .int .i64 p1.made], .func (.yield l1) #[] #[]] (fun v w' => ∃ (z11 : List DElem) (z12 : Nat), q2 = (z11, z12) ∧ ∃ (A20 : Option Addr) (c20 : Nat) (V15 : View), View.le V1 V15 ∧ v = .bool (isz z12) ∧ Hp w V15 [row 39 eElem A20 c20 z11, loopo l1 lr1 (.exit 0) [] z12, marko d1, box b4 29 [.slice A20 z11.length c20], box b3 3 [.int .i64 p2], box b6 36 [.int .i64 p1.key.pfs, .int .i64 p1.key.obj, .int .i64 p1.key.off, .int .i64 p1.made], box b5 24 [.int .i64 p0.root, .slice A1 p0.nodes.length c1], box b2 36 [.int .i64 p1.key.pfs, .int .i64 p1.key.obj, .int .i64 p1.key.off, .int .i64 p1.made], box b1 24 [.int .i64 p0.root, .slice A1 p0.nodes.length c1]] w') (by kernel_rfl) (fun _ => by kernel_rfl) (fun w' hh => hq1 [] p0.root rfl none 0 V1 [box b6 36 [.int .i64 p1.key.pfs, .int .i64 p1.key.obj, .int .i64 p1.key.off, .int .i64 p1.made], box b5 24 [.int .i64 p0.root, .slice A1 p0.nodes.length c1], box b2 36 [.int .i64 p1.key.pfs, .int .i64 p1.key.obj, .int .i64 p1.key.off, .int .i64 p1.made], box b1 24 [.int .i64 p0.root, .slice A1 p0.nodes.length c1]] w' (View.le_refl _) ((hh.sub (.cons_cons _ (.cons_cons _ (.cons_cons _ (.cons_cons _ (.cons_cons _ (.cons_cons _ (.cons_cons _ (.cons_cons _ (.cons_cons _ List.Sublist.slnil)))))))))).perm (List.Perm.cons _ (List.Perm.cons _ (List.Perm.cons _ (List.Perm.trans (List.Perm.cons _ (List.Perm.swap _ _ _)) (List.Perm.trans (List.Perm.swap _ _ _) (List.Perm.cons _ (List.Perm.trans (List.Perm.cons _ (List.Perm.swap _ _ _)) (List.Perm.trans (List.Perm.swap _ _ _) (List.Perm.refl _))))))))))) ?_)
       rintro v w' ⟨z11, z12, rfl, A20, c20, V15, hV15, rfl, hh⟩
       try dsimp only at hX2
       refine ⟨V15, [row 39 eElem A20 c20 z11, loopo l1 lr1 (.exit 0) [] z12, marko d1, box b6 36 [.int .i64 p1.key.pfs, .int .i64 p1.key.obj, .int .i64 p1.key.off, .int .i64 p1.made], box b5 24 [.int .i64 p0.root, .slice A1 p0.nodes.length c1], box b4 29 [.slice A20 z11.length c20], box b3 3 [.int .i64 p2], box b2 36 [.int .i64 p1.key.pfs, .int .i64 p1.key.obj, .int .i64 p1.key.off, .int .i64 p1.made], box b1 24 [.int .i64 p0.root, .slice A1 p0.nodes.length c1]], (hh.sub (.cons_cons _ (.cons_cons _ (.cons_cons _ (.cons_cons _ (.cons_cons _ (.cons_cons _ (.cons_cons _ (.cons_cons _ (.cons_cons _ List.Sublist.slnil)))))))))).perm (List.Perm.cons _ (List.Perm.cons _ (List.Perm.cons _ (List.Perm.trans (List.Perm.cons _ (List.Perm.swap _ _ _)) (List.Perm.trans (List.Perm.swap _ _ _) (List.Perm.cons _ (List.Perm.trans (List.Perm.cons _ (List.Perm.swap _ _ _)) (List.Perm.trans (List.Perm.swap _ _ _) (List.Perm.refl _))))))))), ?_⟩
       clear hh
       cases z12 with
       | zero =>
        rw [natCase_zero] at hX2
        refine T.nil ?_
        cases hX2
        repeat first | refine T.unthenN ?_ | refine T.unblockN ?_
        exact T.end0 rfl (fun w' hh => ⟨_, rfl, Exists.intro z11 (Exists.intro 0 (And.intro rfl (Exists.intro A20 (Exists.intro c20 (Exists.intro V15 (And.intro hV15 ((hh.sub (.cons_cons _ (.cons_cons _ (.cons_cons _ (.cons _ (.cons _ (.cons_cons _ (.cons _ (.cons _ (.cons _ List.Sublist.slnil)))))))))).perm (List.Perm.trans (List.Perm.swap _ _ _) (List.Perm.refl _)))))))))⟩)
       | succ k10 =>
        rw [natCase_succ] at hX2
        refine T.nil ?_
        cases hX2
        repeat first | refine T.unthenN ?_ | refine T.unblockN ?_
        exact T.end0 rfl (fun w' hh => ⟨_, rfl, Exists.intro z11 (Exists.intro (k10 + 1) (And.intro rfl (Exists.intro A20 (Exists.intro c20 (Exists.intro V15 (And.intro hV15 ((hh.sub (.cons_cons _ (.cons_cons _ (.cons_cons _ (.cons _ (.cons _ (.cons_cons _ (.cons _ (.cons _ (.cons _ List.Sublist.slnil)))))))))).perm (List.Perm.trans (List.Perm.swap _ _ _) (List.Perm.refl _)))))))))⟩)
     ·
      rintro l1 d1 lr1 w' ⟨z2, k1, rfl, A3, c3, V3, hV3, hh⟩
      try dsimp only at hX1
      refine ⟨V3, [row 39 eElem A3 c3 z2, marko d1, box b4 29 [.slice A3 z2.length c3]], k1, hh, ?_⟩
      clear hh
      cases k1 with
      | zero =>
       rw [natCase_zero] at hX1
       rw [natCase_zero]
       cases hX1
       exact fun a w' hf hh => Exists.intro A3 (Exists.intro c3 (Exists.intro d1 (Exists.intro V3 (And.intro hV3 (And.intro ((Fr.nil hf).pick hf 9 rfl) (hh.sub (.cons_cons _ (.cons_cons _ (.cons_cons _ List.Sublist.slnil)))))))))
      | succ k11 =>
       rw [natCase_succ] at hX1
       rw [natCase_succ]
       rw [pick_nil]
       refine T.exit ?_
       cases hX1
       exact fun a w' hf hh => Exists.intro A3 (Exists.intro c3 (Exists.intro d1 (Exists.intro V3 (And.intro hV3 (And.intro ((Fr.nil hf).pick hf 9 rfl) (hh.sub (.cons_cons _ (.cons_cons _ (.cons_cons _ List.Sublist.slnil)))))))))
   ·
    rintro a w' ⟨A2, c2, d1, V2, hV2, hf, hh⟩
    refine (?_ : T ⟨31, [d1]⟩ w V2 [row 39 eElem A2 c2 z1, marko d1, box b4 29 [.slice A2 z1.length c2]] [(9, .pointer (some ⟨b4, 0, none⟩))] _) a w' hf hh
    clear hf hh
    refine T.seq ?_
    refine T.region ?_
    refine T.look (.slice A2 z1.length c2) (by kernel_rfl) (fun w' hh => exec_load1 rfl rfl (by kernel_rfl) (hh.cellBox (i := 2) (by rfl) 0)) ?_
    refine T.pure (.slice A2 z1.length c2) (by kernel_rfl) (fun _ => by kernel_rfl) ?_
    refine T.pure (.int .i64 0) (by kernel_rfl) (fun _ => by kernel_rfl) ?_
    refine T.nil ?_
    cases hF
    refine T.ret rfl ?_
    refine T.leaveM [row 39 eElem A2 c2 z1, box b4 29 [.slice A2 z1.length c2]] [d1] (fun w' hh => (hh.sub (.cons_cons _ (.cons_cons _ (.cons_cons _ List.Sublist.slnil)))).perm (List.Perm.trans (List.Perm.swap _ _ _) (List.Perm.refl _))) ?_
    exact T.ret2 rfl (ResIs.tmp rfl) (ResIs.tmp rfl) fun w' hh => ⟨_, rfl, hh.below, (vT2.mk ⟨_, _, rfl, (hh.row_fresh (i := 0) (by rfl) (fun _ h => h))⟩ (show _ from rfl))⟩

end Go.Proofs.Ytoaopihihccfkaa
