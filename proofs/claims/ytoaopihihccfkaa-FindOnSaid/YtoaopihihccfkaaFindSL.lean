/- The Go functions of group FindS compute the pure functions of that group: written by walkgen.py. Condition of each: the pure function yields a result. -/
import Derived.Test.YtoaopihihccfkaaTreeL
import Derived.Test.YtoaopihihccfkaaRange
import Derived.Test.YtoaopihihccfkaaClear
import Derived.Test.YtoaopihihccfkaaFindSF
import Derived.Test.YtoaopihihccfkaaEqL
namespace Go.Proofs.Ytoaopihihccfkaa
set_option linter.unusedVariables false

set_option maxRecDepth 100000 in
set_option maxHeartbeats 4000000 in
theorem find_Spot_l (F : Nat) (p0 : DTree) (p1 : DSpot) (r : DElem × Int) (hF : find_Spot F p0 p1 = some r) (w : World) (A1 : Option Addr) (c1 : Nat) (hs1 : SlOk (vw w) eNode A1 c1 p0.nodes) :
    Calls Try.prog 21 #[.agg #[.int .i64 p0.root, .slice A1 p0.nodes.length c1], .agg #[.int .i64 p1.key.pfs, .int .i64 p1.key.obj, .int .i64 p1.key.off, .int .i64 p1.made]] w (Post (vT2 (vAg eElem) (vSc eInt)) r w) := by
 unfold find_Spot at hF
 refine T.startM (l := [.agg #[.int .i64 p0.root, .slice A1 p0.nodes.length c1], .agg #[.int .i64 p1.key.pfs, .int .i64 p1.key.obj, .int .i64 p1.key.off, .int .i64 p1.made]]) Try.func21 rfl rfl rfl ?_
 refine T.seq ?_
 refine T.region ?_
 refine T.step (W1.new 24 [.int .i64 p0.root, .slice A1 p0.nodes.length c1] (fun b => .pointer (some ⟨b, 0, none⟩)) (by kernel_rfl) (fun _ => by kernel_rfl) (fun b1 => ?_))
 refine T.step (W1.new 36 [.int .i64 p1.key.pfs, .int .i64 p1.key.obj, .int .i64 p1.key.off, .int .i64 p1.made] (fun b => .pointer (some ⟨b, 0, none⟩)) (by kernel_rfl) (fun _ => by kernel_rfl) (fun b2 => ?_))
 refine T.step (W1.new 39 [.int .i64 0, .int .i64 0, .int .i64 0, .int .i64 0, .int .i64 0, .string (ByteArray.mk #[])] (fun b => .pointer (some ⟨b, 0, none⟩)) (by kernel_rfl) (fun _ => by kernel_rfl) (fun b3 => ?_))
 refine T.step (W1.new 25 [.int .i64 0] (fun b => .pointer (some ⟨b, 0, none⟩)) (by kernel_rfl) (fun _ => by kernel_rfl) (fun b4 => ?_))
 refine T.nil ?_
 refine T.seq ?_
 refine T.seq ?_
 refine T.region ?_
 refine T.look (.agg #[.int .i64 p0.root, .slice A1 p0.nodes.length c1]) (by kernel_rfl) (fun w' hh => exec_loadN (cs := [.int .i64 p0.root, .slice A1 p0.nodes.length c1]) rfl rfl (by kernel_rfl) (by kernel_rfl) (fun j u hj => (hh.box_at (i := 3) (cs := [.int .i64 p0.root, .slice A1 p0.nodes.length c1]) (by rfl) 0 j).trans (seg_at (n := 2) (by rfl) hj))) ?_
 obtain ⟨r1, hb1, hF⟩ := Option.bind_eq_some_iff.1 hF
 refine T.step (W1.call (vSc eInt) r1 22 #[.agg #[.int .i64 p0.root, .slice A1 p0.nodes.length c1]] (by kernel_rfl) (fun _ => by kernel_rfl) (fun w' hh => tree_Check_l F p0 r1 hb1 w' A1 c1 (SlOk.mono hs1 hh.view)) ?_)
 intro u V1 hV1 hu
 obtain rfl := sureInt _ _ _ hu
 refine T.pure (.int .i64 r1) (by kernel_rfl) (fun _ => by kernel_rfl) ?_
 refine T.nil ?_
 refine T.seq ?_
 refine T.region ?_
 refine T.pure (.int .i64 r1) (by kernel_rfl) (fun _ => by kernel_rfl) ?_
 refine T.pure (.bool (r1 != 0)) (by kernel_rfl) (fun _ => by kernel_rfl) ?_
 refine T.nil ?_
 refine T.cond (r1 != 0) (by kernel_rfl) (by kernel_rfl) (fun hc1 => ?_) (fun hc1 => ?_)
 ·
  rw [hc1, cond_true] at hF
  refine T.seq ?_
  refine T.region ?_
  refine T.pure (.agg #[.int .i64 0, .int .i64 0, .int .i64 0, .int .i64 0, .int .i64 0, .string (ByteArray.mk #[])]) (by kernel_rfl) (fun _ => by kernel_rfl) ?_
  refine T.pure (.int .i64 r1) (by kernel_rfl) (fun _ => by kernel_rfl) ?_
  refine T.step (W1.store 1 [.int .i64 0, .int .i64 0, .int .i64 0, .int .i64 0, .int .i64 0, .string (ByteArray.mk #[])] [box b4 25 [.int .i64 0], box b3 39 [.int .i64 0, .int .i64 0, .int .i64 0, .int .i64 0, .int .i64 0, .string (ByteArray.mk #[])], box b2 36 [.int .i64 p1.key.pfs, .int .i64 p1.key.obj, .int .i64 p1.key.off, .int .i64 p1.made], box b1 24 [.int .i64 p0.root, .slice A1 p0.nodes.length c1]] (by rfl) rfl (by kernel_rfl) (fun w' hw => exec_store (vs := [.int .i64 0, .int .i64 0, .int .i64 0, .int .i64 0, .int .i64 0, .string (ByteArray.mk #[])]) rfl rfl rfl rfl (by kernel_rfl) (one_of rfl) (by simp) rfl hw) ?_)
  refine T.step (W1.store 0 [.int .i64 r1] [box b4 25 [.int .i64 r1], box b3 39 [.int .i64 0, .int .i64 0, .int .i64 0, .int .i64 0, .int .i64 0, .string (ByteArray.mk #[])], box b2 36 [.int .i64 p1.key.pfs, .int .i64 p1.key.obj, .int .i64 p1.key.off, .int .i64 p1.made], box b1 24 [.int .i64 p0.root, .slice A1 p0.nodes.length c1]] (by rfl) rfl (by kernel_rfl) (fun w' hw => exec_store (vs := [.int .i64 r1]) rfl rfl rfl rfl (by kernel_rfl) (one_of rfl) (by simp) rfl hw) ?_)
  refine T.nil ?_
  cases hF
  refine T.ret rfl ?_
  refine T.leaveM [box b4 25 [.int .i64 r1], box b3 39 [.int .i64 0, .int .i64 0, .int .i64 0, .int .i64 0, .int .i64 0, .string (ByteArray.mk #[])], box b2 36 [.int .i64 p1.key.pfs, .int .i64 p1.key.obj, .int .i64 p1.key.off, .int .i64 p1.made], box b1 24 [.int .i64 p0.root, .slice A1 p0.nodes.length c1]] [] (fun w' hh => hh.sub (.cons_cons _ (.cons_cons _ (.cons_cons _ (.cons_cons _ List.Sublist.slnil))))) ?_
  exact T.ret2 rfl (ResIs.cellN 1 rfl (by rfl) (fun _ => by kernel_rfl) (fun _ => by kernel_rfl)) (ResIs.cell1 0 rfl (by rfl) (fun _ => by kernel_rfl)) fun w' hh => ⟨_, rfl, hh.below, (vT2.mk (vAg.mk rfl) (show _ from rfl))⟩
 ·
  rw [hc1, cond_false] at hF
  refine T.skip_code ?_
  obtain ⟨q1, hX1, hF⟩ := Option.bind_eq_some_iff.1 hF
  refine T.cut (fun a w' => ∃ (z1 : Int) (z2 : Int) (z3 : Int) (z4 : Int) (z5 : Int) (z6 : ByteArray), q1 = Sum.inl (z1, z2, z3, z4, z5, z6) ∧ ∃ (d1 : Nat) (V2 : View), View.le V1 V2 ∧ Fr ⟨24, [d1]⟩ [(4, .pointer (some ⟨b3, 0, none⟩)), (5, .pointer (some ⟨b4, 0, none⟩))] a ∧ Hp w V2 [marko d1, box b4 25 [.int .i64 0], box b3 39 [.int .i64 z1, .int .i64 z2, .int .i64 z3, .int .i64 z4, .int .i64 z5, .string z6]] w') ?_ ?_
  ·
   refine T.seq ?_
   refine T.region ?_
   refine T.look (.agg #[.int .i64 p0.root, .slice A1 p0.nodes.length c1]) (by kernel_rfl) (fun w' hh => exec_loadN (cs := [.int .i64 p0.root, .slice A1 p0.nodes.length c1]) rfl rfl (by kernel_rfl) (by kernel_rfl) (fun j u hj => (hh.box_at (i := 3) (cs := [.int .i64 p0.root, .slice A1 p0.nodes.length c1]) (by rfl) 0 j).trans (seg_at (n := 2) (by rfl) hj))) ?_
   refine T.look (.agg #[.int .i64 p1.key.pfs, .int .i64 p1.key.obj, .int .i64 p1.key.off, .int .i64 p1.made]) (by kernel_rfl) (fun w' hh => exec_loadN (cs := [.int .i64 p1.key.pfs, .int .i64 p1.key.obj, .int .i64 p1.key.off, .int .i64 p1.made]) rfl rfl (by kernel_rfl) (by kernel_rfl) (fun j u hj => (hh.box_at (i := 2) (cs := [.int .i64 p1.key.pfs, .int .i64 p1.key.obj, .int .i64 p1.key.off, .int .i64 p1.made]) (by rfl) 0 j).trans (seg_at (n := 4) (by rfl) hj))) ?_
   refine T.step (W1.within 44 [.agg #[.int .i64 p0.root, .slice A1 p0.nodes.length c1], .agg #[.int .i64 p1.key.pfs, .int .i64 p1.key.obj, .int .i64 p1.key.off, .int .i64 p1.made]] (fun v w' => ∃ (b6 : Nat) (b5 : Nat), v = .func (.func 56) #[] #[.pointer (some ⟨b5, 0, none⟩), .pointer (some ⟨b6, 0, none⟩)] ∧ Hp w V1 [box b6 36 [.int .i64 p1.key.pfs, .int .i64 p1.key.obj, .int .i64 p1.key.off, .int .i64 p1.made], box b5 24 [.int .i64 p0.root, .slice A1 p0.nodes.length c1], box b4 25 [.int .i64 0], box b3 39 [.int .i64 0, .int .i64 0, .int .i64 0, .int .i64 0, .int .i64 0, .string (ByteArray.mk #[])], box b2 36 [.int .i64 p1.key.pfs, .int .i64 p1.key.obj, .int .i64 p1.key.off, .int .i64 p1.made], box b1 24 [.int .i64 p0.root, .slice A1 p0.nodes.length c1]] w') Try.func44 rfl rfl (by kernel_rfl) (fun _ => by kernel_rfl) rfl ?_ ?_)
   ·
    refine T.seq ?_
    refine T.region ?_
    refine T.step (W1.new 24 [.int .i64 p0.root, .slice A1 p0.nodes.length c1] (fun b => .pointer (some ⟨b, 0, none⟩)) (by kernel_rfl) (fun _ => by kernel_rfl) (fun b5 => ?_))
    refine T.step (W1.new 36 [.int .i64 p1.key.pfs, .int .i64 p1.key.obj, .int .i64 p1.key.off, .int .i64 p1.made] (fun b => .pointer (some ⟨b, 0, none⟩)) (by kernel_rfl) (fun _ => by kernel_rfl) (fun b6 => ?_))
    refine T.pure (.nilFunc) (by kernel_rfl) (fun _ => by kernel_rfl) ?_
    refine T.nil ?_
    refine T.seq ?_
    refine T.region ?_
    refine T.pure (.func (.func 56) #[] #[.pointer (some ⟨b5, 0, none⟩), .pointer (some ⟨b6, 0, none⟩)]) (by kernel_rfl) (fun _ => by kernel_rfl) ?_
    refine T.pure (.func (.func 56) #[] #[.pointer (some ⟨b5, 0, none⟩), .pointer (some ⟨b6, 0, none⟩)]) (by kernel_rfl) (fun _ => by kernel_rfl) ?_
    refine T.nil ?_
    refine T.ret rfl ?_
    exact T.ret1 rfl (ResIs.tmp rfl) fun w' hh => ⟨_, rfl, Exists.intro b6 (Exists.intro b5 (And.intro rfl (hh.sub (.cons_cons _ (.cons_cons _ (.cons_cons _ (.cons_cons _ (.cons_cons _ (.cons_cons _ List.Sublist.slnil)))))))))⟩
   ·
    rintro v w' ⟨b6, b5, rfl, hh⟩
    refine ⟨V1, [box b6 36 [.int .i64 p1.key.pfs, .int .i64 p1.key.obj, .int .i64 p1.key.off, .int .i64 p1.made], box b5 24 [.int .i64 p0.root, .slice A1 p0.nodes.length c1], box b4 25 [.int .i64 0], box b3 39 [.int .i64 0, .int .i64 0, .int .i64 0, .int .i64 0, .int .i64 0, .string (ByteArray.mk #[])], box b2 36 [.int .i64 p1.key.pfs, .int .i64 p1.key.obj, .int .i64 p1.key.off, .int .i64 p1.made], box b1 24 [.int .i64 p0.root, .slice A1 p0.nodes.length c1]], hh, ?_⟩
    clear hh
    refine T.nil ?_
    refine T.block ?_
    obtain ⟨q2, hX2, hX1⟩ := Option.bind_eq_some_iff.1 hX1
    refine T.range (gf := 56) (lb := [.pointer (some ⟨b5, 0, none⟩), .pointer (some ⟨b6, 0, none⟩)]) .ret [(.exit 0)] (fun l1 d1 lr1 w' => ∃ (k1 : Nat) (z7 : Int) (z8 : Int) (z9 : Int) (z10 : Int) (z11 : Int) (z12 : ByteArray), q2 = (k1, z7, z8, z9, z10, z11, z12) ∧ ∃ (V3 : View), View.le V1 V3 ∧ Hp w V3 [loopo l1 lr1 .ret [(.exit 0)] k1, marko d1, box b4 25 [.int .i64 0], box b3 39 [.int .i64 z7, .int .i64 z8, .int .i64 z9, .int .i64 z10, .int .i64 z11, .string z12]] w') (by kernel_rfl) (by kernel_rfl) (fun _ _ => by kernel_rfl) ?_ ?_
    ·
     intro l1 d1 lr1 hl1 hl2 hl3 hl4 w1 hh
     refine T.startI (l := [.func (.yield l1) #[] #[], .pointer (some ⟨b5, 0, none⟩), .pointer (some ⟨b6, 0, none⟩)]) Try.func56 rfl rfl rfl ?_ hh
     clear hh
     refine T.region ?_
     refine T.look (.agg #[.int .i64 p0.root, .slice A1 p0.nodes.length c1]) (by kernel_rfl) (fun w' hh => exec_loadN (cs := [.int .i64 p0.root, .slice A1 p0.nodes.length c1]) rfl rfl (by kernel_rfl) (by kernel_rfl) (fun j u hj => (hh.box_at (i := 3) (cs := [.int .i64 p0.root, .slice A1 p0.nodes.length c1]) (by rfl) 0 j).trans (seg_at (n := 2) (by rfl) hj))) ?_
     refine T.pure (.pointer (some ⟨b5, 0, none⟩)) (by kernel_rfl) (fun _ => by kernel_rfl) ?_
     refine T.look (.int .i64 p0.root) (by kernel_rfl) (fun w' hh => exec_load1 rfl rfl (by kernel_rfl) (hh.cellBox (i := 3) (by rfl) 0)) ?_
     refine T.look (.agg #[.int .i64 p1.key.pfs, .int .i64 p1.key.obj, .int .i64 p1.key.off, .int .i64 p1.made]) (by kernel_rfl) (fun w' hh => exec_loadN (cs := [.int .i64 p1.key.pfs, .int .i64 p1.key.obj, .int .i64 p1.key.off, .int .i64 p1.made]) rfl rfl (by kernel_rfl) (by kernel_rfl) (fun j u hj => (hh.box_at (i := 2) (cs := [.int .i64 p1.key.pfs, .int .i64 p1.key.obj, .int .i64 p1.key.off, .int .i64 p1.made]) (by rfl) 0 j).trans (seg_at (n := 4) (by rfl) hj))) ?_
     refine T.pure (.func (.yield l1) #[] #[]) (by kernel_rfl) (fun _ => by kernel_rfl) ?_
     obtain ⟨q3, hz1, hX2⟩ := Option.bind_eq_some_iff.1 hX2
     refine (have hq1 := fix_rec (fun (s_ : Int × Int × Int × Int × Int × ByteArray × Int) (r_ : Nat × Int × Int × Int × Int × Int × ByteArray) => ∀ (x1 : Int) (x2 : Int) (x3 : Int) (x4 : Int) (x5 : Int) (x6 : ByteArray) (x7 : Int), s_ = (x1, x2, x3, x4, x5, x6, x7) → ∀ (V4 : View) (G1 : List HObj) (w1 : World), View.le V1 V4 → Hp w V4 ((loopo l1 lr1 .ret [(.exit 0)] 0) :: (marko d1) :: (box b4 25 [.int .i64 0]) :: (box b3 39 [.int .i64 x1, .int .i64 x2, .int .i64 x3, .int .i64 x4, .int .i64 x5, .string x6]) :: (box b2 36 [.int .i64 p1.key.pfs, .int .i64 p1.key.obj, .int .i64 p1.key.off, .int .i64 p1.made]) :: G1) w1 → Calls Try.prog 57 #[.agg #[.int .i64 p0.root, .slice A1 p0.nodes.length c1], .int .i64 x7, .agg #[.int .i64 p1.key.pfs, .int .i64 p1.key.obj, .int .i64 p1.key.off, .int .i64 p1.made], .func (.yield l1) #[] #[]] w1 (fun e w2 => ∃ v, e = .returned v ∧ ∃ (k2 : Nat) (z13 : Int) (z14 : Int) (z15 : Int) (z16 : Int) (z17 : Int) (z18 : ByteArray), r_ = (k2, z13, z14, z15, z16, z17, z18) ∧ ∃ (V5 : View), View.le V4 V5 ∧ v = .bool (isz k2) ∧ Hp w V5 ((loopo l1 lr1 .ret [(.exit 0)] k2) :: (marko d1) :: (box b4 25 [.int .i64 0]) :: (box b3 39 [.int .i64 z13, .int .i64 z14, .int .i64 z15, .int .i64 z16, .int .i64 z17, .string z18]) :: (box b2 36 [.int .i64 p1.key.pfs, .int .i64 p1.key.obj, .int .i64 p1.key.off, .int .i64 p1.made]) :: G1) w2)) hz1 ?_; ?_)
     ·
      rintro rf1 ih1 s_ r_ hS1 x1 x2 x3 x4 x5 x6 x7 rfl V4 G1 w1 hV4 hh
      try dsimp only at hS1
      refine T.startI (l := [.agg #[.int .i64 p0.root, .slice A1 p0.nodes.length c1], .int .i64 x7, .agg #[.int .i64 p1.key.pfs, .int .i64 p1.key.obj, .int .i64 p1.key.off, .int .i64 p1.made], .func (.yield l1) #[] #[]]) Try.func57 rfl rfl rfl ?_ hh
      clear hh
      refine T.seq ?_
      refine T.region ?_
      refine T.step (W1.new 24 [.int .i64 p0.root, .slice A1 p0.nodes.length c1] (fun b => .pointer (some ⟨b, 0, none⟩)) (by kernel_rfl) (fun _ => by kernel_rfl) (fun b7 => ?_))
      refine T.step (W1.new 36 [.int .i64 p1.key.pfs, .int .i64 p1.key.obj, .int .i64 p1.key.off, .int .i64 p1.made] (fun b => .pointer (some ⟨b, 0, none⟩)) (by kernel_rfl) (fun _ => by kernel_rfl) (fun b8 => ?_))
      refine T.pure (.bool false) (by kernel_rfl) (fun _ => by kernel_rfl) ?_
      refine T.nil ?_
      refine T.seq ?_
      refine T.region ?_
      refine T.pure (.pointer (some ⟨b7, 1, none⟩)) (by kernel_rfl) (fun _ => by kernel_rfl) ?_
      refine T.look (.slice A1 p0.nodes.length c1) (by kernel_rfl) (fun w' hh => exec_load1 rfl rfl (by kernel_rfl) (hh.cellBox (i := 1) (by rfl) 1)) ?_
      refine T.pure (.int .i64 x7) (by kernel_rfl) (fun _ => by kernel_rfl) ?_
      obtain ⟨e1, hb2, hS1⟩ := Option.bind_eq_some_iff.1 hS1
      obtain ⟨hi1, hi2, hi3⟩ := idx_some hb2
      obtain ⟨cs1, hr1, hc2⟩ := SlOk.elem (SlOk.mono hs1 (View.le_trans hV1 hV4)) hi3
      obtain ⟨A2, c2, A3, c3, A4, c4, A5, c5, rfl, hs2, hs3, hs4, hs5⟩ := hr1
      refine T.look (.pointer (some ((sadr A1).add (x7.toNat * 5)))) (by kernel_rfl) (fun w' hh => exec_indexAddr (e := 57) (s := 5) rfl rfl rfl (by kernel_rfl) (by kernel_rfl) hi1 hi2 ((SlOk.mono hs1 (View.le_trans hV1 hV4)).some_ hi3 (by decide))) ?_
      refine T.look (.agg #[.int .i64 e1.kind, .slice A2 e1.elems.length c2, .slice A3 e1.kids.length c3, .slice A4 e1.seps.length c4, .slice A5 e1.tids.length c5]) (by kernel_rfl) (fun w' hh => exec_loadN (cs := [.int .i64 e1.kind, .slice A2 e1.elems.length c2, .slice A3 e1.kids.length c3, .slice A4 e1.seps.length c4, .slice A5 e1.tids.length c5]) rfl rfl (by kernel_rfl) (by kernel_rfl) (fun j u hj => hh.cell_view (View.cell_mono (View.le_refl _) (hc2 j u hj).2))) ?_
      refine T.step (W1.new 57 [.int .i64 0, .slice none 0 0, .slice none 0 0, .slice none 0 0, .slice none 0 0] (fun b => .pointer (some ⟨b, 0, none⟩)) (by kernel_rfl) (fun _ => by kernel_rfl) (fun b9 => ?_))
      refine T.step (W1.store 0 [.int .i64 e1.kind, .slice A2 e1.elems.length c2, .slice A3 e1.kids.length c3, .slice A4 e1.seps.length c4, .slice A5 e1.tids.length c5] ((box b9 57 [.int .i64 e1.kind, .slice A2 e1.elems.length c2, .slice A3 e1.kids.length c3, .slice A4 e1.seps.length c4, .slice A5 e1.tids.length c5]) :: (box b8 36 [.int .i64 p1.key.pfs, .int .i64 p1.key.obj, .int .i64 p1.key.off, .int .i64 p1.made]) :: (box b7 24 [.int .i64 p0.root, .slice A1 p0.nodes.length c1]) :: (loopo l1 lr1 .ret [(.exit 0)] 0) :: (marko d1) :: (box b4 25 [.int .i64 0]) :: (box b3 39 [.int .i64 x1, .int .i64 x2, .int .i64 x3, .int .i64 x4, .int .i64 x5, .string x6]) :: (box b2 36 [.int .i64 p1.key.pfs, .int .i64 p1.key.obj, .int .i64 p1.key.off, .int .i64 p1.made]) :: G1) (by rfl) rfl (by kernel_rfl) (fun w' hw => exec_store (vs := [.int .i64 e1.kind, .slice A2 e1.elems.length c2, .slice A3 e1.kids.length c3, .slice A4 e1.seps.length c4, .slice A5 e1.tids.length c5]) rfl rfl rfl rfl (by kernel_rfl) (one_of rfl) (by simp) rfl hw) ?_)
      refine T.nil ?_
      refine T.seq ?_
      refine T.seq ?_
      refine T.region ?_
      refine T.pure (.pointer (some ⟨b9, 1, none⟩)) (by kernel_rfl) (fun _ => by kernel_rfl) ?_
      refine T.look (.slice A2 e1.elems.length c2) (by kernel_rfl) (fun w' hh => exec_load1 rfl rfl (by kernel_rfl) (hh.cellBox (i := 0) (by rfl) 1)) ?_
      refine T.pure (.int .i64 (e1.elems.length : Int)) (by kernel_rfl) (fun _ => by kernel_rfl) ?_
      refine T.pure (.int .i64 0) (by kernel_rfl) (fun _ => by kernel_rfl) ?_
      refine T.nil ?_
      obtain ⟨q4, hz2, hS1⟩ := Option.bind_eq_some_iff.1 hS1
      refine T.mid (fun a w' => ∃ (z19 : Int) (z20 : Int) (z21 : Int) (z22 : Int) (z23 : Int) (z24 : ByteArray), q4 = Sum.inl (z19, z20, z21, z22, z23, z24) ∧ ∃ (V7 : View), View.le V4 V7 ∧ Fr 59 [(3, .func (.yield l1) #[] #[]), (4, .pointer (some ⟨b7, 0, none⟩)), (6, .pointer (some ⟨b8, 0, none⟩)), (9, .pointer (some ⟨b9, 0, none⟩))] a ∧ Hp w V7 ((box b9 57 [.int .i64 e1.kind, .slice A2 e1.elems.length c2, .slice A3 e1.kids.length c3, .slice A4 e1.seps.length c4, .slice A5 e1.tids.length c5]) :: (box b8 36 [.int .i64 p1.key.pfs, .int .i64 p1.key.obj, .int .i64 p1.key.off, .int .i64 p1.made]) :: (box b7 24 [.int .i64 p0.root, .slice A1 p0.nodes.length c1]) :: (loopo l1 lr1 .ret [(.exit 0)] 0) :: (marko d1) :: (box b4 25 [.int .i64 0]) :: (box b3 39 [.int .i64 z19, .int .i64 z20, .int .i64 z21, .int .i64 z22, .int .i64 z23, .string z24]) :: (box b2 36 [.int .i64 p1.key.pfs, .int .i64 p1.key.obj, .int .i64 p1.key.off, .int .i64 p1.made]) :: G1) w') ?_ ?_
      ·
       refine T.block ?_
       refine T.iter (fun s1 a w' => ∃ (x8 : Int) (x9 : Int) (x10 : Int) (x11 : Int) (x12 : Int) (x13 : ByteArray) (x14 : Int), s1 = (x8, x9, x10, x11, x12, x13, x14) ∧ ∃ (V6 : View), View.le V4 V6 ∧ Fr 59 [(3, .func (.yield l1) #[] #[]), (4, .pointer (some ⟨b7, 0, none⟩)), (6, .pointer (some ⟨b8, 0, none⟩)), (9, .pointer (some ⟨b9, 0, none⟩)), (20, .slice A2 e1.elems.length c2), (21, .int .i64 (e1.elems.length : Int)), (22, .int .i64 x14)] a ∧ Hp w V6 ((box b9 57 [.int .i64 e1.kind, .slice A2 e1.elems.length c2, .slice A3 e1.kids.length c3, .slice A4 e1.seps.length c4, .slice A5 e1.tids.length c5]) :: (box b8 36 [.int .i64 p1.key.pfs, .int .i64 p1.key.obj, .int .i64 p1.key.off, .int .i64 p1.made]) :: (box b7 24 [.int .i64 p0.root, .slice A1 p0.nodes.length c1]) :: (loopo l1 lr1 .ret [(.exit 0)] 0) :: (marko d1) :: (box b4 25 [.int .i64 0]) :: (box b3 39 [.int .i64 x8, .int .i64 x9, .int .i64 x10, .int .i64 x11, .int .i64 x12, .string x13]) :: (box b2 36 [.int .i64 p1.key.pfs, .int .i64 p1.key.obj, .int .i64 p1.key.off, .int .i64 p1.made]) :: G1) w') hz2 ?_ ?_
       ·
        exact fun a w' hf hh => Exists.intro x1 (Exists.intro x2 (Exists.intro x3 (Exists.intro x4 (Exists.intro x5 (Exists.intro x6 (Exists.intro 0 (And.intro rfl (Exists.intro V4 (And.intro (View.le_refl _) (And.intro ((((((((Fr.nil hf).pick hf 22 rfl).pick hf 21 rfl).pick hf 20 rfl).pick hf 9 rfl).pick hf 6 rfl).pick hf 4 rfl).pick hf 3 rfl) (hh.sub (.cons_cons _ (.cons_cons _ (.cons_cons _ (.cons_cons _ (.cons_cons _ (.cons_cons _ (.cons_cons _ (.cons_cons _ (List.Sublist.refl _))))))))))))))))))))
       ·
        rintro s1 y1 hY1 hr2 a w' ⟨x8, x9, x10, x11, x12, x13, x14, rfl, V6, hV6, hf, hh⟩
        refine (?_ : T 59 w V6 ((box b9 57 [.int .i64 e1.kind, .slice A2 e1.elems.length c2, .slice A3 e1.kids.length c3, .slice A4 e1.seps.length c4, .slice A5 e1.tids.length c5]) :: (box b8 36 [.int .i64 p1.key.pfs, .int .i64 p1.key.obj, .int .i64 p1.key.off, .int .i64 p1.made]) :: (box b7 24 [.int .i64 p0.root, .slice A1 p0.nodes.length c1]) :: (loopo l1 lr1 .ret [(.exit 0)] 0) :: (marko d1) :: (box b4 25 [.int .i64 0]) :: (box b3 39 [.int .i64 x8, .int .i64 x9, .int .i64 x10, .int .i64 x11, .int .i64 x12, .string x13]) :: (box b2 36 [.int .i64 p1.key.pfs, .int .i64 p1.key.obj, .int .i64 p1.key.off, .int .i64 p1.made]) :: G1) [(3, .func (.yield l1) #[] #[]), (4, .pointer (some ⟨b7, 0, none⟩)), (6, .pointer (some ⟨b8, 0, none⟩)), (9, .pointer (some ⟨b9, 0, none⟩)), (20, .slice A2 e1.elems.length c2), (21, .int .i64 (e1.elems.length : Int)), (22, .int .i64 x14)] _) a w' hf hh
        clear hf hh
        try dsimp only at hY1
        refine T.seq ?_
        refine T.region ?_
        refine T.pure (.bool (decide (x14 < (e1.elems.length : Int)))) (by kernel_rfl) (fun _ => by kernel_rfl) ?_
        refine T.nil ?_
        refine T.seq ?_
        refine T.cond (decide (x14 < (e1.elems.length : Int))) (by kernel_rfl) (by kernel_rfl) (fun hc3 => ?_) (fun hc3 => ?_)
        ·
         rw [hc3, cond_true] at hY1
         refine T.skip_code ?_
         refine T.seq ?_
         refine T.block ?_
         refine T.seq ?_
         refine T.region ?_
         obtain ⟨e2, hb3, hY1⟩ := Option.bind_eq_some_iff.1 hY1
         obtain ⟨hi4, hi5, hi6⟩ := idx_some hb3
         refine T.look (.pointer (some ((sadr A2).add (x14.toNat * 6)))) (by kernel_rfl) (fun w' hh => exec_indexAddr (e := 39) (s := 6) rfl rfl rfl (by kernel_rfl) (by kernel_rfl) hi4 hi5 ((SlOk.mono hs2 hV6).some_ hi6 (by decide))) ?_
         refine T.look (.agg #[.int .i64 e2.key.pfs, .int .i64 e2.key.obj, .int .i64 e2.key.off, .int .i64 e2.made, .int .i64 e2.gone, .string e2.val]) (by kernel_rfl) (fun w' hh => exec_loadN (cs := [.int .i64 e2.key.pfs, .int .i64 e2.key.obj, .int .i64 e2.key.off, .int .i64 e2.made, .int .i64 e2.gone, .string e2.val]) rfl rfl (by kernel_rfl) (by kernel_rfl) (fun j u hj => (hh.cell_view (SlOk.cellF (E := eElem) (SlOk.mono hs2 hV6) hi6 j (fun _ _ _ h => h) hj)))) ?_
         refine T.step (W1.new 39 [.int .i64 0, .int .i64 0, .int .i64 0, .int .i64 0, .int .i64 0, .string (ByteArray.mk #[])] (fun b => .pointer (some ⟨b, 0, none⟩)) (by kernel_rfl) (fun _ => by kernel_rfl) (fun b10 => ?_))
         refine T.step (W1.store 0 [.int .i64 e2.key.pfs, .int .i64 e2.key.obj, .int .i64 e2.key.off, .int .i64 e2.made, .int .i64 e2.gone, .string e2.val] ((box b10 39 [.int .i64 e2.key.pfs, .int .i64 e2.key.obj, .int .i64 e2.key.off, .int .i64 e2.made, .int .i64 e2.gone, .string e2.val]) :: (box b9 57 [.int .i64 e1.kind, .slice A2 e1.elems.length c2, .slice A3 e1.kids.length c3, .slice A4 e1.seps.length c4, .slice A5 e1.tids.length c5]) :: (box b8 36 [.int .i64 p1.key.pfs, .int .i64 p1.key.obj, .int .i64 p1.key.off, .int .i64 p1.made]) :: (box b7 24 [.int .i64 p0.root, .slice A1 p0.nodes.length c1]) :: (loopo l1 lr1 .ret [(.exit 0)] 0) :: (marko d1) :: (box b4 25 [.int .i64 0]) :: (box b3 39 [.int .i64 x8, .int .i64 x9, .int .i64 x10, .int .i64 x11, .int .i64 x12, .string x13]) :: (box b2 36 [.int .i64 p1.key.pfs, .int .i64 p1.key.obj, .int .i64 p1.key.off, .int .i64 p1.made]) :: G1) (by rfl) rfl (by kernel_rfl) (fun w' hw => exec_store (vs := [.int .i64 e2.key.pfs, .int .i64 e2.key.obj, .int .i64 e2.key.off, .int .i64 e2.made, .int .i64 e2.gone, .string e2.val]) rfl rfl rfl rfl (by kernel_rfl) (one_of rfl) (by simp) rfl hw) ?_)
         refine T.nil ?_
         obtain ⟨q5, hX3, hY1⟩ := Option.bind_eq_some_iff.1 hY1
         refine T.cut (fun a w' => ∃ (k3 : Nat) (z25 : Int) (z26 : Int) (z27 : Int) (z28 : Int) (z29 : Int) (z30 : ByteArray), q5 = (k3, z25, z26, z27, z28, z29, z30) ∧ ∃ (V8 : View), View.le V6 V8 ∧ Fr 59 [(3, .func (.yield l1) #[] #[]), (4, .pointer (some ⟨b7, 0, none⟩)), (6, .pointer (some ⟨b8, 0, none⟩)), (9, .pointer (some ⟨b9, 0, none⟩)), (20, .slice A2 e1.elems.length c2), (21, .int .i64 (e1.elems.length : Int)), (22, .int .i64 x14), (36, .bool (!(isz k3)))] a ∧ Hp w V8 ((box b9 57 [.int .i64 e1.kind, .slice A2 e1.elems.length c2, .slice A3 e1.kids.length c3, .slice A4 e1.seps.length c4, .slice A5 e1.tids.length c5]) :: (box b8 36 [.int .i64 p1.key.pfs, .int .i64 p1.key.obj, .int .i64 p1.key.off, .int .i64 p1.made]) :: (box b7 24 [.int .i64 p0.root, .slice A1 p0.nodes.length c1]) :: (loopo l1 lr1 .ret [(.exit 0)] k3) :: (marko d1) :: (box b4 25 [.int .i64 0]) :: (box b3 39 [.int .i64 z25, .int .i64 z26, .int .i64 z27, .int .i64 z28, .int .i64 z29, .string z30]) :: (box b2 36 [.int .i64 p1.key.pfs, .int .i64 p1.key.obj, .int .i64 p1.key.off, .int .i64 p1.made]) :: G1) w') ?_ ?_
         ·
          refine T.anyI (by kernel_rfl) ?_
          refine TI.all [0, 2] (by kernel_rfl) rfl ⟨?_, ?_, trivial⟩
          ·
           refine TI.br rfl (W1.toR (W1.look (.agg #[.int .i64 e2.key.pfs, .int .i64 e2.key.obj, .int .i64 e2.key.off, .int .i64 e2.made, .int .i64 e2.gone, .string e2.val]) (by kernel_rfl) (fun w' hh => exec_loadN (cs := [.int .i64 e2.key.pfs, .int .i64 e2.key.obj, .int .i64 e2.key.off, .int .i64 e2.made, .int .i64 e2.gone, .string e2.val]) rfl rfl (by kernel_rfl) (by kernel_rfl) (fun j u hj => (hh.box_at (i := 0) (cs := [.int .i64 e2.key.pfs, .int .i64 e2.key.obj, .int .i64 e2.key.off, .int .i64 e2.made, .int .i64 e2.gone, .string e2.val]) (by rfl) 0 j).trans (seg_at (n := 6) (by rfl) hj))) ?_))
           refine TI.all [1, 2] (by kernel_rfl) rfl ⟨?_, ?_, trivial⟩
           ·
            obtain ⟨r2, hb4, hX3⟩ := Option.bind_eq_some_iff.1 hX3
            refine TI.br rfl <| W1.toR (W1.call (vAg eSpot) r2 15 #[.agg #[.int .i64 e2.key.pfs, .int .i64 e2.key.obj, .int .i64 e2.key.off, .int .i64 e2.made, .int .i64 e2.gone, .string e2.val]] (by kernel_rfl) (fun _ => by kernel_rfl) (fun w' hh => elem_Spot_l e2 r2 hb4 w' ) ?_)
            intro u V9 hV9 hu
            obtain rfl := sureSpot _ _ _ hu
            refine TI.all [2] (by kernel_rfl) rfl ⟨?_, trivial⟩
            refine TI.br rfl (W1.toR (W1.look (.agg #[.int .i64 p1.key.pfs, .int .i64 p1.key.obj, .int .i64 p1.key.off, .int .i64 p1.made]) (by kernel_rfl) (fun w' hh => exec_loadN (cs := [.int .i64 p1.key.pfs, .int .i64 p1.key.obj, .int .i64 p1.key.off, .int .i64 p1.made]) rfl rfl (by kernel_rfl) (by kernel_rfl) (fun j u hj => (hh.box_at (i := 2) (cs := [.int .i64 p1.key.pfs, .int .i64 p1.key.obj, .int .i64 p1.key.off, .int .i64 p1.made]) (by rfl) 0 j).trans (seg_at (n := 4) (by rfl) hj))) ?_))
            refine TI.all [3] (by kernel_rfl) rfl ⟨?_, trivial⟩
            obtain ⟨r3, hb5, hX3⟩ := Option.bind_eq_some_iff.1 hX3
            refine TI.br rfl <| W1.toR (W1.call (vSc eInt) r3 14 #[.agg #[.int .i64 r2.key.pfs, .int .i64 r2.key.obj, .int .i64 r2.key.off, .int .i64 r2.made], .agg #[.int .i64 p1.key.pfs, .int .i64 p1.key.obj, .int .i64 p1.key.off, .int .i64 p1.made]] (by kernel_rfl) (fun _ => by kernel_rfl) (fun w' hh => key_CmpSpot_l r2 p1 r3 hb5 w' ) ?_)
            intro u V10 hV10 hu
            obtain rfl := sureInt _ _ _ hu
            refine TI.all [4] (by kernel_rfl) rfl ⟨?_, trivial⟩
            refine TI.br rfl (W1.toR (W1.look (.bool (decide ((0 : Int) ≤ r3))) (by kernel_rfl) (fun _ _ => by kernel_rfl) ?_))
            refine TI.all [5] (by kernel_rfl) rfl ⟨?_, trivial⟩
            refine TI.br rfl (W1.toR (W1.look (.bool (decide ((0 : Int) ≤ r3))) (by kernel_rfl) (fun _ _ => by kernel_rfl) ?_))
            cases hg1 : decide ((0 : Int) ≤ r3)
            ·
             rw [hg1, cond_false] at hX3
             refine TI.all [6, 7] (by kernel_rfl) rfl ⟨?_, ?_, trivial⟩
             ·
              refine TI.no rfl (by kernel_rfl) (by kernel_rfl) ?_
              refine TI.all [7] (by kernel_rfl) rfl ⟨?_, trivial⟩
              refine TI.no rfl (by kernel_rfl) (by kernel_rfl) ?_
              refine TI.all [8] (by kernel_rfl) rfl ⟨?_, trivial⟩
              refine TI.no rfl (by kernel_rfl) (by kernel_rfl) ?_
              refine TI.all [9] (by kernel_rfl) rfl ⟨?_, trivial⟩
              refine TI.no rfl (by kernel_rfl) (by kernel_rfl) ?_
              refine TI.all [10] (by kernel_rfl) rfl ⟨?_, trivial⟩
              refine TI.br rfl (W1.toR (W1.look (.bool false) (by kernel_rfl) (fun _ _ => by kernel_rfl) ?_))
              refine TI.done (by kernel_rfl) ?_
              cases hX3
              exact fun a w' hf hh => Exists.intro 0 (Exists.intro x8 (Exists.intro x9 (Exists.intro x10 (Exists.intro x11 (Exists.intro x12 (Exists.intro x13 (And.intro rfl (Exists.intro V10 (And.intro (View.le_trans hV9 hV10) (And.intro (((((((((Fr.nil hf).pick hf 36 rfl).pick hf 22 rfl).pick hf 21 rfl).pick hf 20 rfl).pick hf 9 rfl).pick hf 6 rfl).pick hf 4 rfl).pick hf 3 rfl) (hh.sub (.cons _ (.cons_cons _ (.cons_cons _ (.cons_cons _ (.cons_cons _ (.cons_cons _ (.cons_cons _ (.cons_cons _ (.cons_cons _ (List.Sublist.refl _)))))))))))))))))))))
             ·
              refine TI.no rfl (by kernel_rfl) (by kernel_rfl) ?_
              refine TI.all [6] (by kernel_rfl) rfl ⟨?_, trivial⟩
              refine TI.no rfl (by kernel_rfl) (by kernel_rfl) ?_
              refine TI.all [8] (by kernel_rfl) rfl ⟨?_, trivial⟩
              refine TI.no rfl (by kernel_rfl) (by kernel_rfl) ?_
              refine TI.all [9] (by kernel_rfl) rfl ⟨?_, trivial⟩
              refine TI.no rfl (by kernel_rfl) (by kernel_rfl) ?_
              refine TI.all [10] (by kernel_rfl) rfl ⟨?_, trivial⟩
              refine TI.br rfl (W1.toR (W1.look (.bool false) (by kernel_rfl) (fun _ _ => by kernel_rfl) ?_))
              refine TI.done (by kernel_rfl) ?_
              cases hX3
              exact fun a w' hf hh => Exists.intro 0 (Exists.intro x8 (Exists.intro x9 (Exists.intro x10 (Exists.intro x11 (Exists.intro x12 (Exists.intro x13 (And.intro rfl (Exists.intro V10 (And.intro (View.le_trans hV9 hV10) (And.intro (((((((((Fr.nil hf).pick hf 36 rfl).pick hf 22 rfl).pick hf 21 rfl).pick hf 20 rfl).pick hf 9 rfl).pick hf 6 rfl).pick hf 4 rfl).pick hf 3 rfl) (hh.sub (.cons _ (.cons_cons _ (.cons_cons _ (.cons_cons _ (.cons_cons _ (.cons_cons _ (.cons_cons _ (.cons_cons _ (.cons_cons _ (List.Sublist.refl _)))))))))))))))))))))
            ·
             rw [hg1, cond_true] at hX3
             refine TI.all [6, 7] (by kernel_rfl) rfl ⟨?_, ?_, trivial⟩
             ·
              refine TI.br rfl (W1.toR (W1.look (.func (.yield l1) #[] #[]) (by kernel_rfl) (fun _ _ => by kernel_rfl) ?_))
              refine TI.all [7] (by kernel_rfl) rfl ⟨?_, trivial⟩
              refine TI.br rfl (W1.toR (W1.look (.agg #[.int .i64 e2.key.pfs, .int .i64 e2.key.obj, .int .i64 e2.key.off, .int .i64 e2.made, .int .i64 e2.gone, .string e2.val]) (by kernel_rfl) (fun w' hh => exec_loadN (cs := [.int .i64 e2.key.pfs, .int .i64 e2.key.obj, .int .i64 e2.key.off, .int .i64 e2.made, .int .i64 e2.gone, .string e2.val]) rfl rfl (by kernel_rfl) (by kernel_rfl) (fun j u hj => (hh.box_at (i := 0) (cs := [.int .i64 e2.key.pfs, .int .i64 e2.key.obj, .int .i64 e2.key.off, .int .i64 e2.made, .int .i64 e2.gone, .string e2.val]) (by rfl) 0 j).trans (seg_at (n := 6) (by rfl) hj))) ?_))
              refine TI.all [8] (by kernel_rfl) rfl ⟨?_, trivial⟩
              obtain ⟨q6, hX4, hX3⟩ := Option.bind_eq_some_iff.1 hX3
              refine TI.br rfl (W1R.yield 4 l1 (fun v w' => ∃ (k4 : Nat) (z31 : Int) (z32 : Int) (z33 : Int) (z34 : Int) (z35 : Int) (z36 : ByteArray), q6 = (k4, z31, z32, z33, z34, z35, z36) ∧ ∃ (V11 : View), View.le V10 V11 ∧ v = .bool false ∧ Hp w V11 ((box b10 39 [.int .i64 e2.key.pfs, .int .i64 e2.key.obj, .int .i64 e2.key.off, .int .i64 e2.made, .int .i64 e2.gone, .string e2.val]) :: (box b9 57 [.int .i64 e1.kind, .slice A2 e1.elems.length c2, .slice A3 e1.kids.length c3, .slice A4 e1.seps.length c4, .slice A5 e1.tids.length c5]) :: (box b8 36 [.int .i64 p1.key.pfs, .int .i64 p1.key.obj, .int .i64 p1.key.off, .int .i64 p1.made]) :: (box b7 24 [.int .i64 p0.root, .slice A1 p0.nodes.length c1]) :: (loopo l1 lr1 .ret [(.exit 0)] (k4 + 1)) :: (marko d1) :: (box b4 25 [.int .i64 0]) :: (box b3 39 [.int .i64 z31, .int .i64 z32, .int .i64 z33, .int .i64 z34, .int .i64 z35, .string z36]) :: (box b2 36 [.int .i64 p1.key.pfs, .int .i64 p1.key.obj, .int .i64 p1.key.off, .int .i64 p1.made]) :: G1) w') (by rfl) hl1 hl2 hl3 hl4 (by rfl) (by kernel_rfl) rfl (by kernel_rfl) rfl ?_ ?_)
              ·
               refine T.region ?_
               refine T.step (W1.new 39 [.int .i64 0, .int .i64 0, .int .i64 0, .int .i64 0, .int .i64 0, .string (ByteArray.mk #[])] (fun b => .pointer (some ⟨b, 0, none⟩)) (by kernel_rfl) (fun _ => by kernel_rfl) (fun b11 => ?_))
               refine T.step (W1.store 0 [.int .i64 e2.key.pfs, .int .i64 e2.key.obj, .int .i64 e2.key.off, .int .i64 e2.made, .int .i64 e2.gone, .string e2.val] ((box b11 39 [.int .i64 e2.key.pfs, .int .i64 e2.key.obj, .int .i64 e2.key.off, .int .i64 e2.made, .int .i64 e2.gone, .string e2.val]) :: (box b10 39 [.int .i64 e2.key.pfs, .int .i64 e2.key.obj, .int .i64 e2.key.off, .int .i64 e2.made, .int .i64 e2.gone, .string e2.val]) :: (box b9 57 [.int .i64 e1.kind, .slice A2 e1.elems.length c2, .slice A3 e1.kids.length c3, .slice A4 e1.seps.length c4, .slice A5 e1.tids.length c5]) :: (box b8 36 [.int .i64 p1.key.pfs, .int .i64 p1.key.obj, .int .i64 p1.key.off, .int .i64 p1.made]) :: (box b7 24 [.int .i64 p0.root, .slice A1 p0.nodes.length c1]) :: (loopo l1 lr1 .ret [(.exit 0)] 0) :: (marko d1) :: (box b4 25 [.int .i64 0]) :: (box b3 39 [.int .i64 x8, .int .i64 x9, .int .i64 x10, .int .i64 x11, .int .i64 x12, .string x13]) :: (box b2 36 [.int .i64 p1.key.pfs, .int .i64 p1.key.obj, .int .i64 p1.key.off, .int .i64 p1.made]) :: G1) (by rfl) rfl (by kernel_rfl) (fun w' hw => exec_store (vs := [.int .i64 e2.key.pfs, .int .i64 e2.key.obj, .int .i64 e2.key.off, .int .i64 e2.made, .int .i64 e2.gone, .string e2.val]) rfl rfl rfl rfl (by kernel_rfl) (one_of rfl) (by simp) rfl hw) ?_)
               refine T.nil ?_
               refine T.unthenN ?_
               refine T.begin 5 ((box b11 39 [.int .i64 e2.key.pfs, .int .i64 e2.key.obj, .int .i64 e2.key.off, .int .i64 e2.made, .int .i64 e2.gone, .string e2.val]) :: (box b10 39 [.int .i64 e2.key.pfs, .int .i64 e2.key.obj, .int .i64 e2.key.off, .int .i64 e2.made, .int .i64 e2.gone, .string e2.val]) :: (box b9 57 [.int .i64 e1.kind, .slice A2 e1.elems.length c2, .slice A3 e1.kids.length c3, .slice A4 e1.seps.length c4, .slice A5 e1.tids.length c5]) :: (box b8 36 [.int .i64 p1.key.pfs, .int .i64 p1.key.obj, .int .i64 p1.key.off, .int .i64 p1.made]) :: (box b7 24 [.int .i64 p0.root, .slice A1 p0.nodes.length c1]) :: (busyo l1 lr1) :: (marko d1) :: (box b4 25 [.int .i64 0]) :: (box b3 39 [.int .i64 x8, .int .i64 x9, .int .i64 x10, .int .i64 x11, .int .i64 x12, .string x13]) :: (box b2 36 [.int .i64 p1.key.pfs, .int .i64 p1.key.obj, .int .i64 p1.key.off, .int .i64 p1.made]) :: G1) (by rfl) rfl ?_
               refine T.block ?_
               refine T.seq ?_
               obtain ⟨z37, hX5, hX4⟩ := Option.bind_eq_some_iff.1 hX4
               refine T.cut (fun a w' => ∃ (V12 : View), View.le V10 V12 ∧ Fr 24 [(4, .pointer (some ⟨b3, 0, none⟩)), (5, .pointer (some ⟨b4, 0, none⟩)), (7, .pointer (some ⟨b11, 0, none⟩)), (21, .bool z37)] a ∧ Hp w V12 ((box b11 39 [.int .i64 e2.key.pfs, .int .i64 e2.key.obj, .int .i64 e2.key.off, .int .i64 e2.made, .int .i64 e2.gone, .string e2.val]) :: (box b10 39 [.int .i64 e2.key.pfs, .int .i64 e2.key.obj, .int .i64 e2.key.off, .int .i64 e2.made, .int .i64 e2.gone, .string e2.val]) :: (box b9 57 [.int .i64 e1.kind, .slice A2 e1.elems.length c2, .slice A3 e1.kids.length c3, .slice A4 e1.seps.length c4, .slice A5 e1.tids.length c5]) :: (box b8 36 [.int .i64 p1.key.pfs, .int .i64 p1.key.obj, .int .i64 p1.key.off, .int .i64 p1.made]) :: (box b7 24 [.int .i64 p0.root, .slice A1 p0.nodes.length c1]) :: (busyo l1 lr1) :: (marko d1) :: (box b4 25 [.int .i64 0]) :: (box b3 39 [.int .i64 x8, .int .i64 x9, .int .i64 x10, .int .i64 x11, .int .i64 x12, .string x13]) :: (box b2 36 [.int .i64 p1.key.pfs, .int .i64 p1.key.obj, .int .i64 p1.key.off, .int .i64 p1.made]) :: G1) w') ?_ ?_
               ·
                refine T.anyI (by kernel_rfl) ?_
                refine TI.all [0, 2] (by kernel_rfl) rfl ⟨?_, ?_, trivial⟩
                ·
                 refine TI.br rfl (W1.toR (W1.look (.agg #[.int .i64 e2.key.pfs, .int .i64 e2.key.obj, .int .i64 e2.key.off, .int .i64 e2.made, .int .i64 e2.gone, .string e2.val]) (by kernel_rfl) (fun w' hh => exec_loadN (cs := [.int .i64 e2.key.pfs, .int .i64 e2.key.obj, .int .i64 e2.key.off, .int .i64 e2.made, .int .i64 e2.gone, .string e2.val]) rfl rfl (by kernel_rfl) (by kernel_rfl) (fun j u hj => (hh.box_at (i := 0) (cs := [.int .i64 e2.key.pfs, .int .i64 e2.key.obj, .int .i64 e2.key.off, .int .i64 e2.made, .int .i64 e2.gone, .string e2.val]) (by rfl) 0 j).trans (seg_at (n := 6) (by rfl) hj))) ?_))
                 refine TI.all [1, 2] (by kernel_rfl) rfl ⟨?_, ?_, trivial⟩
                 ·
                  obtain ⟨r4, hb6, hX5⟩ := Option.bind_eq_some_iff.1 hX5
                  refine TI.br rfl <| W1.toR (W1.call (vAg eSpot) r4 15 #[.agg #[.int .i64 e2.key.pfs, .int .i64 e2.key.obj, .int .i64 e2.key.off, .int .i64 e2.made, .int .i64 e2.gone, .string e2.val]] (by kernel_rfl) (fun _ => by kernel_rfl) (fun w' hh => elem_Spot_l e2 r4 hb6 w' ) ?_)
                  intro u V12 hV12 hu
                  obtain rfl := sureSpot _ _ _ hu
                  refine TI.all [2] (by kernel_rfl) rfl ⟨?_, trivial⟩
                  refine TI.br rfl (W1.toR (W1.look (.agg #[.int .i64 p1.key.pfs, .int .i64 p1.key.obj, .int .i64 p1.key.off, .int .i64 p1.made]) (by kernel_rfl) (fun w' hh => exec_loadN (cs := [.int .i64 p1.key.pfs, .int .i64 p1.key.obj, .int .i64 p1.key.off, .int .i64 p1.made]) rfl rfl (by kernel_rfl) (by kernel_rfl) (fun j u hj => (hh.box_at (i := 9) (cs := [.int .i64 p1.key.pfs, .int .i64 p1.key.obj, .int .i64 p1.key.off, .int .i64 p1.made]) (by rfl) 0 j).trans (seg_at (n := 4) (by rfl) hj))) ?_))
                  refine TI.all [3] (by kernel_rfl) rfl ⟨?_, trivial⟩
                  refine TI.br rfl (W1.toR (W1.look (.bool (r4 == p1)) (by kernel_rfl) (fun w' hh => exec_eql_DSpot r4 p1 w' rfl rfl rfl) ?_))
                  refine TI.done (by kernel_rfl) ?_
                  cases hX5
                  exact fun a w' hf hh => Exists.intro V12 (And.intro hV12 (And.intro (((((Fr.nil hf).pick hf 21 rfl).pick hf 7 rfl).pick hf 5 rfl).pick hf 4 rfl) (hh.sub (.cons_cons _ (.cons_cons _ (.cons_cons _ (.cons_cons _ (.cons_cons _ (.cons_cons _ (.cons_cons _ (.cons_cons _ (.cons_cons _ (.cons_cons _ (List.Sublist.refl _))))))))))))))
                 ·
                  refine TI.br rfl (W1.toR (W1.look (.agg #[.int .i64 p1.key.pfs, .int .i64 p1.key.obj, .int .i64 p1.key.off, .int .i64 p1.made]) (by kernel_rfl) (fun w' hh => exec_loadN (cs := [.int .i64 p1.key.pfs, .int .i64 p1.key.obj, .int .i64 p1.key.off, .int .i64 p1.made]) rfl rfl (by kernel_rfl) (by kernel_rfl) (fun j u hj => (hh.box_at (i := 9) (cs := [.int .i64 p1.key.pfs, .int .i64 p1.key.obj, .int .i64 p1.key.off, .int .i64 p1.made]) (by rfl) 0 j).trans (seg_at (n := 4) (by rfl) hj))) ?_))
                  refine TI.all [1] (by kernel_rfl) rfl ⟨?_, trivial⟩
                  obtain ⟨r4, hb6, hX5⟩ := Option.bind_eq_some_iff.1 hX5
                  refine TI.br rfl <| W1.toR (W1.call (vAg eSpot) r4 15 #[.agg #[.int .i64 e2.key.pfs, .int .i64 e2.key.obj, .int .i64 e2.key.off, .int .i64 e2.made, .int .i64 e2.gone, .string e2.val]] (by kernel_rfl) (fun _ => by kernel_rfl) (fun w' hh => elem_Spot_l e2 r4 hb6 w' ) ?_)
                  intro u V12 hV12 hu
                  obtain rfl := sureSpot _ _ _ hu
                  refine TI.all [3] (by kernel_rfl) rfl ⟨?_, trivial⟩
                  refine TI.br rfl (W1.toR (W1.look (.bool (r4 == p1)) (by kernel_rfl) (fun w' hh => exec_eql_DSpot r4 p1 w' rfl rfl rfl) ?_))
                  refine TI.done (by kernel_rfl) ?_
                  cases hX5
                  exact fun a w' hf hh => Exists.intro V12 (And.intro hV12 (And.intro (((((Fr.nil hf).pick hf 21 rfl).pick hf 7 rfl).pick hf 5 rfl).pick hf 4 rfl) (hh.sub (.cons_cons _ (.cons_cons _ (.cons_cons _ (.cons_cons _ (.cons_cons _ (.cons_cons _ (.cons_cons _ (.cons_cons _ (.cons_cons _ (.cons_cons _ (List.Sublist.refl _))))))))))))))
                ·
                 refine TI.br rfl (W1.toR (W1.look (.agg #[.int .i64 p1.key.pfs, .int .i64 p1.key.obj, .int .i64 p1.key.off, .int .i64 p1.made]) (by kernel_rfl) (fun w' hh => exec_loadN (cs := [.int .i64 p1.key.pfs, .int .i64 p1.key.obj, .int .i64 p1.key.off, .int .i64 p1.made]) rfl rfl (by kernel_rfl) (by kernel_rfl) (fun j u hj => (hh.box_at (i := 9) (cs := [.int .i64 p1.key.pfs, .int .i64 p1.key.obj, .int .i64 p1.key.off, .int .i64 p1.made]) (by rfl) 0 j).trans (seg_at (n := 4) (by rfl) hj))) ?_))
                 refine TI.all [0] (by kernel_rfl) rfl ⟨?_, trivial⟩
                 refine TI.br rfl (W1.toR (W1.look (.agg #[.int .i64 e2.key.pfs, .int .i64 e2.key.obj, .int .i64 e2.key.off, .int .i64 e2.made, .int .i64 e2.gone, .string e2.val]) (by kernel_rfl) (fun w' hh => exec_loadN (cs := [.int .i64 e2.key.pfs, .int .i64 e2.key.obj, .int .i64 e2.key.off, .int .i64 e2.made, .int .i64 e2.gone, .string e2.val]) rfl rfl (by kernel_rfl) (by kernel_rfl) (fun j u hj => (hh.box_at (i := 0) (cs := [.int .i64 e2.key.pfs, .int .i64 e2.key.obj, .int .i64 e2.key.off, .int .i64 e2.made, .int .i64 e2.gone, .string e2.val]) (by rfl) 0 j).trans (seg_at (n := 6) (by rfl) hj))) ?_))
                 refine TI.all [1] (by kernel_rfl) rfl ⟨?_, trivial⟩
                 obtain ⟨r4, hb6, hX5⟩ := Option.bind_eq_some_iff.1 hX5
                 refine TI.br rfl <| W1.toR (W1.call (vAg eSpot) r4 15 #[.agg #[.int .i64 e2.key.pfs, .int .i64 e2.key.obj, .int .i64 e2.key.off, .int .i64 e2.made, .int .i64 e2.gone, .string e2.val]] (by kernel_rfl) (fun _ => by kernel_rfl) (fun w' hh => elem_Spot_l e2 r4 hb6 w' ) ?_)
                 intro u V12 hV12 hu
                 obtain rfl := sureSpot _ _ _ hu
                 refine TI.all [3] (by kernel_rfl) rfl ⟨?_, trivial⟩
                 refine TI.br rfl (W1.toR (W1.look (.bool (r4 == p1)) (by kernel_rfl) (fun w' hh => exec_eql_DSpot r4 p1 w' rfl rfl rfl) ?_))
                 refine TI.done (by kernel_rfl) ?_
                 cases hX5
                 exact fun a w' hf hh => Exists.intro V12 (And.intro hV12 (And.intro (((((Fr.nil hf).pick hf 21 rfl).pick hf 7 rfl).pick hf 5 rfl).pick hf 4 rfl) (hh.sub (.cons_cons _ (.cons_cons _ (.cons_cons _ (.cons_cons _ (.cons_cons _ (.cons_cons _ (.cons_cons _ (.cons_cons _ (.cons_cons _ (.cons_cons _ (List.Sublist.refl _))))))))))))))
               ·
                rintro a w' ⟨V12, hV12, hf, hh⟩
                refine (?_ : T 24 w V12 ((box b11 39 [.int .i64 e2.key.pfs, .int .i64 e2.key.obj, .int .i64 e2.key.off, .int .i64 e2.made, .int .i64 e2.gone, .string e2.val]) :: (box b10 39 [.int .i64 e2.key.pfs, .int .i64 e2.key.obj, .int .i64 e2.key.off, .int .i64 e2.made, .int .i64 e2.gone, .string e2.val]) :: (box b9 57 [.int .i64 e1.kind, .slice A2 e1.elems.length c2, .slice A3 e1.kids.length c3, .slice A4 e1.seps.length c4, .slice A5 e1.tids.length c5]) :: (box b8 36 [.int .i64 p1.key.pfs, .int .i64 p1.key.obj, .int .i64 p1.key.off, .int .i64 p1.made]) :: (box b7 24 [.int .i64 p0.root, .slice A1 p0.nodes.length c1]) :: (busyo l1 lr1) :: (marko d1) :: (box b4 25 [.int .i64 0]) :: (box b3 39 [.int .i64 x8, .int .i64 x9, .int .i64 x10, .int .i64 x11, .int .i64 x12, .string x13]) :: (box b2 36 [.int .i64 p1.key.pfs, .int .i64 p1.key.obj, .int .i64 p1.key.off, .int .i64 p1.made]) :: G1) [(4, .pointer (some ⟨b3, 0, none⟩)), (5, .pointer (some ⟨b4, 0, none⟩)), (7, .pointer (some ⟨b11, 0, none⟩)), (21, .bool z37)] _) a w' hf hh
                clear hf hh
                refine T.cond z37 (by kernel_rfl) (by kernel_rfl) (fun hc4 => ?_) (fun hc4 => ?_)
                ·
                 rw [hc4, cond_true] at hX4
                 refine T.seq ?_
                 refine T.region ?_
                 refine T.look (.agg #[.int .i64 e2.key.pfs, .int .i64 e2.key.obj, .int .i64 e2.key.off, .int .i64 e2.made, .int .i64 e2.gone, .string e2.val]) (by kernel_rfl) (fun w' hh => exec_loadN (cs := [.int .i64 e2.key.pfs, .int .i64 e2.key.obj, .int .i64 e2.key.off, .int .i64 e2.made, .int .i64 e2.gone, .string e2.val]) rfl rfl (by kernel_rfl) (by kernel_rfl) (fun j u hj => (hh.box_at (i := 0) (cs := [.int .i64 e2.key.pfs, .int .i64 e2.key.obj, .int .i64 e2.key.off, .int .i64 e2.made, .int .i64 e2.gone, .string e2.val]) (by rfl) 0 j).trans (seg_at (n := 6) (by rfl) hj))) ?_
                 refine T.step (W1.store 8 [.int .i64 e2.key.pfs, .int .i64 e2.key.obj, .int .i64 e2.key.off, .int .i64 e2.made, .int .i64 e2.gone, .string e2.val] ((box b11 39 [.int .i64 e2.key.pfs, .int .i64 e2.key.obj, .int .i64 e2.key.off, .int .i64 e2.made, .int .i64 e2.gone, .string e2.val]) :: (box b10 39 [.int .i64 e2.key.pfs, .int .i64 e2.key.obj, .int .i64 e2.key.off, .int .i64 e2.made, .int .i64 e2.gone, .string e2.val]) :: (box b9 57 [.int .i64 e1.kind, .slice A2 e1.elems.length c2, .slice A3 e1.kids.length c3, .slice A4 e1.seps.length c4, .slice A5 e1.tids.length c5]) :: (box b8 36 [.int .i64 p1.key.pfs, .int .i64 p1.key.obj, .int .i64 p1.key.off, .int .i64 p1.made]) :: (box b7 24 [.int .i64 p0.root, .slice A1 p0.nodes.length c1]) :: (busyo l1 lr1) :: (marko d1) :: (box b4 25 [.int .i64 0]) :: (box b3 39 [.int .i64 e2.key.pfs, .int .i64 e2.key.obj, .int .i64 e2.key.off, .int .i64 e2.made, .int .i64 e2.gone, .string e2.val]) :: (box b2 36 [.int .i64 p1.key.pfs, .int .i64 p1.key.obj, .int .i64 p1.key.off, .int .i64 p1.made]) :: G1) (by rfl) rfl (by kernel_rfl) (fun w' hw => exec_store (vs := [.int .i64 e2.key.pfs, .int .i64 e2.key.obj, .int .i64 e2.key.off, .int .i64 e2.made, .int .i64 e2.gone, .string e2.val]) rfl rfl rfl rfl (by kernel_rfl) (one_of rfl) (by simp) rfl hw) ?_)
                 refine T.step (W1.store 7 [.int .i64 0] ((box b11 39 [.int .i64 e2.key.pfs, .int .i64 e2.key.obj, .int .i64 e2.key.off, .int .i64 e2.made, .int .i64 e2.gone, .string e2.val]) :: (box b10 39 [.int .i64 e2.key.pfs, .int .i64 e2.key.obj, .int .i64 e2.key.off, .int .i64 e2.made, .int .i64 e2.gone, .string e2.val]) :: (box b9 57 [.int .i64 e1.kind, .slice A2 e1.elems.length c2, .slice A3 e1.kids.length c3, .slice A4 e1.seps.length c4, .slice A5 e1.tids.length c5]) :: (box b8 36 [.int .i64 p1.key.pfs, .int .i64 p1.key.obj, .int .i64 p1.key.off, .int .i64 p1.made]) :: (box b7 24 [.int .i64 p0.root, .slice A1 p0.nodes.length c1]) :: (busyo l1 lr1) :: (marko d1) :: (box b4 25 [.int .i64 0]) :: (box b3 39 [.int .i64 e2.key.pfs, .int .i64 e2.key.obj, .int .i64 e2.key.off, .int .i64 e2.made, .int .i64 e2.gone, .string e2.val]) :: (box b2 36 [.int .i64 p1.key.pfs, .int .i64 p1.key.obj, .int .i64 p1.key.off, .int .i64 p1.made]) :: G1) (by rfl) rfl (by kernel_rfl) (fun w' hw => exec_store (vs := [.int .i64 0]) rfl rfl rfl rfl (by kernel_rfl) (one_of rfl) (by simp) rfl hw) ?_)
                 refine T.nil ?_
                 cases hX4
                 refine T.ret rfl ?_
                 repeat first | refine T.unthenR ?_ | refine T.unblockR ?_
                 exact T.roundRet .ret [(.exit 0)] 0 5 ((box b11 39 [.int .i64 e2.key.pfs, .int .i64 e2.key.obj, .int .i64 e2.key.off, .int .i64 e2.made, .int .i64 e2.gone, .string e2.val]) :: (box b10 39 [.int .i64 e2.key.pfs, .int .i64 e2.key.obj, .int .i64 e2.key.off, .int .i64 e2.made, .int .i64 e2.gone, .string e2.val]) :: (box b9 57 [.int .i64 e1.kind, .slice A2 e1.elems.length c2, .slice A3 e1.kids.length c3, .slice A4 e1.seps.length c4, .slice A5 e1.tids.length c5]) :: (box b8 36 [.int .i64 p1.key.pfs, .int .i64 p1.key.obj, .int .i64 p1.key.off, .int .i64 p1.made]) :: (box b7 24 [.int .i64 p0.root, .slice A1 p0.nodes.length c1]) :: (loopo l1 lr1 .ret [(.exit 0)] (0 + 1)) :: (marko d1) :: (box b4 25 [.int .i64 0]) :: (box b3 39 [.int .i64 e2.key.pfs, .int .i64 e2.key.obj, .int .i64 e2.key.off, .int .i64 e2.made, .int .i64 e2.gone, .string e2.val]) :: (box b2 36 [.int .i64 p1.key.pfs, .int .i64 p1.key.obj, .int .i64 p1.key.off, .int .i64 p1.made]) :: G1) (by rfl) rfl rfl (fun w' hh => ⟨_, rfl, Exists.intro 0 (Exists.intro e2.key.pfs (Exists.intro e2.key.obj (Exists.intro e2.key.off (Exists.intro e2.made (Exists.intro e2.gone (Exists.intro e2.val (And.intro rfl (Exists.intro V12 (And.intro hV12 (And.intro rfl (hh.sub (.cons _ (.cons_cons _ (.cons_cons _ (.cons_cons _ (.cons_cons _ (.cons_cons _ (.cons_cons _ (.cons_cons _ (.cons_cons _ (.cons_cons _ (List.Sublist.refl _))))))))))))))))))))))⟩)
                ·
                 rw [hc4, cond_false] at hX4
                 refine T.skip_code ?_
                 refine T.exit ?_
                 cases hX4
                 repeat first | refine T.unthenX ?_ | refine T.unblockX rfl ?_
                 exact T.roundExit .ret [(.exit 0)] 1 5 ((box b11 39 [.int .i64 e2.key.pfs, .int .i64 e2.key.obj, .int .i64 e2.key.off, .int .i64 e2.made, .int .i64 e2.gone, .string e2.val]) :: (box b10 39 [.int .i64 e2.key.pfs, .int .i64 e2.key.obj, .int .i64 e2.key.off, .int .i64 e2.made, .int .i64 e2.gone, .string e2.val]) :: (box b9 57 [.int .i64 e1.kind, .slice A2 e1.elems.length c2, .slice A3 e1.kids.length c3, .slice A4 e1.seps.length c4, .slice A5 e1.tids.length c5]) :: (box b8 36 [.int .i64 p1.key.pfs, .int .i64 p1.key.obj, .int .i64 p1.key.off, .int .i64 p1.made]) :: (box b7 24 [.int .i64 p0.root, .slice A1 p0.nodes.length c1]) :: (loopo l1 lr1 .ret [(.exit 0)] (1 + 1)) :: (marko d1) :: (box b4 25 [.int .i64 0]) :: (box b3 39 [.int .i64 x8, .int .i64 x9, .int .i64 x10, .int .i64 x11, .int .i64 x12, .string x13]) :: (box b2 36 [.int .i64 p1.key.pfs, .int .i64 p1.key.obj, .int .i64 p1.key.off, .int .i64 p1.made]) :: G1) (by rfl) rfl rfl (fun w' hh => ⟨_, rfl, Exists.intro 1 (Exists.intro x8 (Exists.intro x9 (Exists.intro x10 (Exists.intro x11 (Exists.intro x12 (Exists.intro x13 (And.intro rfl (Exists.intro V12 (And.intro hV12 (And.intro rfl (hh.sub (.cons _ (.cons_cons _ (.cons_cons _ (.cons_cons _ (.cons_cons _ (.cons_cons _ (.cons_cons _ (.cons_cons _ (.cons_cons _ (.cons_cons _ (List.Sublist.refl _))))))))))))))))))))))⟩)
              ·
               rintro v w' ⟨k4, z31, z32, z33, z34, z35, z36, rfl, V11, hV11, rfl, hh⟩
               try dsimp only at hX3
               refine ⟨V11, ((box b10 39 [.int .i64 e2.key.pfs, .int .i64 e2.key.obj, .int .i64 e2.key.off, .int .i64 e2.made, .int .i64 e2.gone, .string e2.val]) :: (box b9 57 [.int .i64 e1.kind, .slice A2 e1.elems.length c2, .slice A3 e1.kids.length c3, .slice A4 e1.seps.length c4, .slice A5 e1.tids.length c5]) :: (box b8 36 [.int .i64 p1.key.pfs, .int .i64 p1.key.obj, .int .i64 p1.key.off, .int .i64 p1.made]) :: (box b7 24 [.int .i64 p0.root, .slice A1 p0.nodes.length c1]) :: (loopo l1 lr1 .ret [(.exit 0)] (k4 + 1)) :: (marko d1) :: (box b4 25 [.int .i64 0]) :: (box b3 39 [.int .i64 z31, .int .i64 z32, .int .i64 z33, .int .i64 z34, .int .i64 z35, .string z36]) :: (box b2 36 [.int .i64 p1.key.pfs, .int .i64 p1.key.obj, .int .i64 p1.key.off, .int .i64 p1.made]) :: G1), hh, ?_⟩
               clear hh
               refine TI.all [9] (by kernel_rfl) rfl ⟨?_, trivial⟩
               refine TI.br rfl (W1.toR (W1.look (.bool true) (by kernel_rfl) (fun _ _ => by kernel_rfl) ?_))
               refine TI.all [10] (by kernel_rfl) rfl ⟨?_, trivial⟩
               refine TI.br rfl (W1.toR (W1.look (.bool true) (by kernel_rfl) (fun _ _ => by kernel_rfl) ?_))
               refine TI.done (by kernel_rfl) ?_
               cases hX3
               exact fun a w' hf hh => Exists.intro (k4 + 1) (Exists.intro z31 (Exists.intro z32 (Exists.intro z33 (Exists.intro z34 (Exists.intro z35 (Exists.intro z36 (And.intro rfl (Exists.intro V11 (And.intro (View.le_trans (View.le_trans hV9 hV10) hV11) (And.intro (((((((((Fr.nil hf).pick hf 36 rfl).pick hf 22 rfl).pick hf 21 rfl).pick hf 20 rfl).pick hf 9 rfl).pick hf 6 rfl).pick hf 4 rfl).pick hf 3 rfl) (hh.sub (.cons _ (.cons_cons _ (.cons_cons _ (.cons_cons _ (.cons_cons _ (.cons_cons _ (.cons_cons _ (.cons_cons _ (.cons_cons _ (List.Sublist.refl _)))))))))))))))))))))
             ·
              refine TI.br rfl (W1.toR (W1.look (.agg #[.int .i64 e2.key.pfs, .int .i64 e2.key.obj, .int .i64 e2.key.off, .int .i64 e2.made, .int .i64 e2.gone, .string e2.val]) (by kernel_rfl) (fun w' hh => exec_loadN (cs := [.int .i64 e2.key.pfs, .int .i64 e2.key.obj, .int .i64 e2.key.off, .int .i64 e2.made, .int .i64 e2.gone, .string e2.val]) rfl rfl (by kernel_rfl) (by kernel_rfl) (fun j u hj => (hh.box_at (i := 0) (cs := [.int .i64 e2.key.pfs, .int .i64 e2.key.obj, .int .i64 e2.key.off, .int .i64 e2.made, .int .i64 e2.gone, .string e2.val]) (by rfl) 0 j).trans (seg_at (n := 6) (by rfl) hj))) ?_))
              refine TI.all [6] (by kernel_rfl) rfl ⟨?_, trivial⟩
              refine TI.br rfl (W1.toR (W1.look (.func (.yield l1) #[] #[]) (by kernel_rfl) (fun _ _ => by kernel_rfl) ?_))
              refine TI.all [8] (by kernel_rfl) rfl ⟨?_, trivial⟩
              obtain ⟨q6, hX4, hX3⟩ := Option.bind_eq_some_iff.1 hX3
              refine TI.br rfl (W1R.yield 4 l1 (fun v w' => ∃ (k4 : Nat) (z31 : Int) (z32 : Int) (z33 : Int) (z34 : Int) (z35 : Int) (z36 : ByteArray), q6 = (k4, z31, z32, z33, z34, z35, z36) ∧ ∃ (V11 : View), View.le V10 V11 ∧ v = .bool false ∧ Hp w V11 ((box b10 39 [.int .i64 e2.key.pfs, .int .i64 e2.key.obj, .int .i64 e2.key.off, .int .i64 e2.made, .int .i64 e2.gone, .string e2.val]) :: (box b9 57 [.int .i64 e1.kind, .slice A2 e1.elems.length c2, .slice A3 e1.kids.length c3, .slice A4 e1.seps.length c4, .slice A5 e1.tids.length c5]) :: (box b8 36 [.int .i64 p1.key.pfs, .int .i64 p1.key.obj, .int .i64 p1.key.off, .int .i64 p1.made]) :: (box b7 24 [.int .i64 p0.root, .slice A1 p0.nodes.length c1]) :: (loopo l1 lr1 .ret [(.exit 0)] (k4 + 1)) :: (marko d1) :: (box b4 25 [.int .i64 0]) :: (box b3 39 [.int .i64 z31, .int .i64 z32, .int .i64 z33, .int .i64 z34, .int .i64 z35, .string z36]) :: (box b2 36 [.int .i64 p1.key.pfs, .int .i64 p1.key.obj, .int .i64 p1.key.off, .int .i64 p1.made]) :: G1) w') (by rfl) hl1 hl2 hl3 hl4 (by rfl) (by kernel_rfl) rfl (by kernel_rfl) rfl ?_ ?_)
              ·
               refine T.region ?_
               refine T.step (W1.new 39 [.int .i64 0, .int .i64 0, .int .i64 0, .int .i64 0, .int .i64 0, .string (ByteArray.mk #[])] (fun b => .pointer (some ⟨b, 0, none⟩)) (by kernel_rfl) (fun _ => by kernel_rfl) (fun b11 => ?_))
               refine T.step (W1.store 0 [.int .i64 e2.key.pfs, .int .i64 e2.key.obj, .int .i64 e2.key.off, .int .i64 e2.made, .int .i64 e2.gone, .string e2.val] ((box b11 39 [.int .i64 e2.key.pfs, .int .i64 e2.key.obj, .int .i64 e2.key.off, .int .i64 e2.made, .int .i64 e2.gone, .string e2.val]) :: (box b10 39 [.int .i64 e2.key.pfs, .int .i64 e2.key.obj, .int .i64 e2.key.off, .int .i64 e2.made, .int .i64 e2.gone, .string e2.val]) :: (box b9 57 [.int .i64 e1.kind, .slice A2 e1.elems.length c2, .slice A3 e1.kids.length c3, .slice A4 e1.seps.length c4, .slice A5 e1.tids.length c5]) :: (box b8 36 [.int .i64 p1.key.pfs, .int .i64 p1.key.obj, .int .i64 p1.key.off, .int .i64 p1.made]) :: (box b7 24 [.int .i64 p0.root, .slice A1 p0.nodes.length c1]) :: (loopo l1 lr1 .ret [(.exit 0)] 0) :: (marko d1) :: (box b4 25 [.int .i64 0]) :: (box b3 39 [.int .i64 x8, .int .i64 x9, .int .i64 x10, .int .i64 x11, .int .i64 x12, .string x13]) :: (box b2 36 [.int .i64 p1.key.pfs, .int .i64 p1.key.obj, .int .i64 p1.key.off, .int .i64 p1.made]) :: G1) (by rfl) rfl (by kernel_rfl) (fun w' hw => exec_store (vs := [.int .i64 e2.key.pfs, .int .i64 e2.key.obj, .int .i64 e2.key.off, .int .i64 e2.made, .int .i64 e2.gone, .string e2.val]) rfl rfl rfl rfl (by kernel_rfl) (one_of rfl) (by simp) rfl hw) ?_)
               refine T.nil ?_
               refine T.unthenN ?_
               refine T.begin 5 ((box b11 39 [.int .i64 e2.key.pfs, .int .i64 e2.key.obj, .int .i64 e2.key.off, .int .i64 e2.made, .int .i64 e2.gone, .string e2.val]) :: (box b10 39 [.int .i64 e2.key.pfs, .int .i64 e2.key.obj, .int .i64 e2.key.off, .int .i64 e2.made, .int .i64 e2.gone, .string e2.val]) :: (box b9 57 [.int .i64 e1.kind, .slice A2 e1.elems.length c2, .slice A3 e1.kids.length c3, .slice A4 e1.seps.length c4, .slice A5 e1.tids.length c5]) :: (box b8 36 [.int .i64 p1.key.pfs, .int .i64 p1.key.obj, .int .i64 p1.key.off, .int .i64 p1.made]) :: (box b7 24 [.int .i64 p0.root, .slice A1 p0.nodes.length c1]) :: (busyo l1 lr1) :: (marko d1) :: (box b4 25 [.int .i64 0]) :: (box b3 39 [.int .i64 x8, .int .i64 x9, .int .i64 x10, .int .i64 x11, .int .i64 x12, .string x13]) :: (box b2 36 [.int .i64 p1.key.pfs, .int .i64 p1.key.obj, .int .i64 p1.key.off, .int .i64 p1.made]) :: G1) (by rfl) rfl ?_
               refine T.block ?_
               refine T.seq ?_
               obtain ⟨z37, hX5, hX4⟩ := Option.bind_eq_some_iff.1 hX4
               refine T.cut (fun a w' => ∃ (V12 : View), View.le V10 V12 ∧ Fr 24 [(4, .pointer (some ⟨b3, 0, none⟩)), (5, .pointer (some ⟨b4, 0, none⟩)), (7, .pointer (some ⟨b11, 0, none⟩)), (21, .bool z37)] a ∧ Hp w V12 ((box b11 39 [.int .i64 e2.key.pfs, .int .i64 e2.key.obj, .int .i64 e2.key.off, .int .i64 e2.made, .int .i64 e2.gone, .string e2.val]) :: (box b10 39 [.int .i64 e2.key.pfs, .int .i64 e2.key.obj, .int .i64 e2.key.off, .int .i64 e2.made, .int .i64 e2.gone, .string e2.val]) :: (box b9 57 [.int .i64 e1.kind, .slice A2 e1.elems.length c2, .slice A3 e1.kids.length c3, .slice A4 e1.seps.length c4, .slice A5 e1.tids.length c5]) :: (box b8 36 [.int .i64 p1.key.pfs, .int .i64 p1.key.obj, .int .i64 p1.key.off, .int .i64 p1.made]) :: (box b7 24 [.int .i64 p0.root, .slice A1 p0.nodes.length c1]) :: (busyo l1 lr1) :: (marko d1) :: (box b4 25 [.int .i64 0]) :: (box b3 39 [.int .i64 x8, .int .i64 x9, .int .i64 x10, .int .i64 x11, .int .i64 x12, .string x13]) :: (box b2 36 [.int .i64 p1.key.pfs, .int .i64 p1.key.obj, .int .i64 p1.key.off, .int .i64 p1.made]) :: G1) w') ?_ ?_
               ·
                refine T.anyI (by kernel_rfl) ?_
                refine TI.all [0, 2] (by kernel_rfl) rfl ⟨?_, ?_, trivial⟩
                ·
                 refine TI.br rfl (W1.toR (W1.look (.agg #[.int .i64 e2.key.pfs, .int .i64 e2.key.obj, .int .i64 e2.key.off, .int .i64 e2.made, .int .i64 e2.gone, .string e2.val]) (by kernel_rfl) (fun w' hh => exec_loadN (cs := [.int .i64 e2.key.pfs, .int .i64 e2.key.obj, .int .i64 e2.key.off, .int .i64 e2.made, .int .i64 e2.gone, .string e2.val]) rfl rfl (by kernel_rfl) (by kernel_rfl) (fun j u hj => (hh.box_at (i := 0) (cs := [.int .i64 e2.key.pfs, .int .i64 e2.key.obj, .int .i64 e2.key.off, .int .i64 e2.made, .int .i64 e2.gone, .string e2.val]) (by rfl) 0 j).trans (seg_at (n := 6) (by rfl) hj))) ?_))
                 refine TI.all [1, 2] (by kernel_rfl) rfl ⟨?_, ?_, trivial⟩
                 ·
                  obtain ⟨r4, hb6, hX5⟩ := Option.bind_eq_some_iff.1 hX5
                  refine TI.br rfl <| W1.toR (W1.call (vAg eSpot) r4 15 #[.agg #[.int .i64 e2.key.pfs, .int .i64 e2.key.obj, .int .i64 e2.key.off, .int .i64 e2.made, .int .i64 e2.gone, .string e2.val]] (by kernel_rfl) (fun _ => by kernel_rfl) (fun w' hh => elem_Spot_l e2 r4 hb6 w' ) ?_)
                  intro u V12 hV12 hu
                  obtain rfl := sureSpot _ _ _ hu
                  refine TI.all [2] (by kernel_rfl) rfl ⟨?_, trivial⟩
                  refine TI.br rfl (W1.toR (W1.look (.agg #[.int .i64 p1.key.pfs, .int .i64 p1.key.obj, .int .i64 p1.key.off, .int .i64 p1.made]) (by kernel_rfl) (fun w' hh => exec_loadN (cs := [.int .i64 p1.key.pfs, .int .i64 p1.key.obj, .int .i64 p1.key.off, .int .i64 p1.made]) rfl rfl (by kernel_rfl) (by kernel_rfl) (fun j u hj => (hh.box_at (i := 9) (cs := [.int .i64 p1.key.pfs, .int .i64 p1.key.obj, .int .i64 p1.key.off, .int .i64 p1.made]) (by rfl) 0 j).trans (seg_at (n := 4) (by rfl) hj))) ?_))
                  refine TI.all [3] (by kernel_rfl) rfl ⟨?_, trivial⟩
                  refine TI.br rfl (W1.toR (W1.look (.bool (r4 == p1)) (by kernel_rfl) (fun w' hh => exec_eql_DSpot r4 p1 w' rfl rfl rfl) ?_))
                  refine TI.done (by kernel_rfl) ?_
                  cases hX5
                  exact fun a w' hf hh => Exists.intro V12 (And.intro hV12 (And.intro (((((Fr.nil hf).pick hf 21 rfl).pick hf 7 rfl).pick hf 5 rfl).pick hf 4 rfl) (hh.sub (.cons_cons _ (.cons_cons _ (.cons_cons _ (.cons_cons _ (.cons_cons _ (.cons_cons _ (.cons_cons _ (.cons_cons _ (.cons_cons _ (.cons_cons _ (List.Sublist.refl _))))))))))))))
                 ·
                  refine TI.br rfl (W1.toR (W1.look (.agg #[.int .i64 p1.key.pfs, .int .i64 p1.key.obj, .int .i64 p1.key.off, .int .i64 p1.made]) (by kernel_rfl) (fun w' hh => exec_loadN (cs := [.int .i64 p1.key.pfs, .int .i64 p1.key.obj, .int .i64 p1.key.off, .int .i64 p1.made]) rfl rfl (by kernel_rfl) (by kernel_rfl) (fun j u hj => (hh.box_at (i := 9) (cs := [.int .i64 p1.key.pfs, .int .i64 p1.key.obj, .int .i64 p1.key.off, .int .i64 p1.made]) (by rfl) 0 j).trans (seg_at (n := 4) (by rfl) hj))) ?_))
                  refine TI.all [1] (by kernel_rfl) rfl ⟨?_, trivial⟩
                  obtain ⟨r4, hb6, hX5⟩ := Option.bind_eq_some_iff.1 hX5
                  refine TI.br rfl <| W1.toR (W1.call (vAg eSpot) r4 15 #[.agg #[.int .i64 e2.key.pfs, .int .i64 e2.key.obj, .int .i64 e2.key.off, .int .i64 e2.made, .int .i64 e2.gone, .string e2.val]] (by kernel_rfl) (fun _ => by kernel_rfl) (fun w' hh => elem_Spot_l e2 r4 hb6 w' ) ?_)
                  intro u V12 hV12 hu
                  obtain rfl := sureSpot _ _ _ hu
                  refine TI.all [3] (by kernel_rfl) rfl ⟨?_, trivial⟩
                  refine TI.br rfl (W1.toR (W1.look (.bool (r4 == p1)) (by kernel_rfl) (fun w' hh => exec_eql_DSpot r4 p1 w' rfl rfl rfl) ?_))
                  refine TI.done (by kernel_rfl) ?_
                  cases hX5
                  exact fun a w' hf hh => Exists.intro V12 (And.intro hV12 (And.intro (((((Fr.nil hf).pick hf 21 rfl).pick hf 7 rfl).pick hf 5 rfl).pick hf 4 rfl) (hh.sub (.cons_cons _ (.cons_cons _ (.cons_cons _ (.cons_cons _ (.cons_cons _ (.cons_cons _ (.cons_cons _ (.cons_cons _ (.cons_cons _ (.cons_cons _ (List.Sublist.refl _))))))))))))))
                ·
                 refine TI.br rfl (W1.toR (W1.look (.agg #[.int .i64 p1.key.pfs, .int .i64 p1.key.obj, .int .i64 p1.key.off, .int .i64 p1.made]) (by kernel_rfl) (fun w' hh => exec_loadN (cs := [.int .i64 p1.key.pfs, .int .i64 p1.key.obj, .int .i64 p1.key.off, .int .i64 p1.made]) rfl rfl (by kernel_rfl) (by kernel_rfl) (fun j u hj => (hh.box_at (i := 9) (cs := [.int .i64 p1.key.pfs, .int .i64 p1.key.obj, .int .i64 p1.key.off, .int .i64 p1.made]) (by rfl) 0 j).trans (seg_at (n := 4) (by rfl) hj))) ?_))
                 refine TI.all [0] (by kernel_rfl) rfl ⟨?_, trivial⟩
                 refine TI.br rfl (W1.toR (W1.look (.agg #[.int .i64 e2.key.pfs, .int .i64 e2.key.obj, .int .i64 e2.key.off, .int .i64 e2.made, .int .i64 e2.gone, .string e2.val]) (by kernel_rfl) (fun w' hh => exec_loadN (cs := [.int .i64 e2.key.pfs, .int .i64 e2.key.obj, .int .i64 e2.key.off, .int .i64 e2.made, .int .i64 e2.gone, .string e2.val]) rfl rfl (by kernel_rfl) (by kernel_rfl) (fun j u hj => (hh.box_at (i := 0) (cs := [.int .i64 e2.key.pfs, .int .i64 e2.key.obj, .int .i64 e2.key.off, .int .i64 e2.made, .int .i64 e2.gone, .string e2.val]) (by rfl) 0 j).trans (seg_at (n := 6) (by rfl) hj))) ?_))
                 refine TI.all [1] (by kernel_rfl) rfl ⟨?_, trivial⟩
                 obtain ⟨r4, hb6, hX5⟩ := Option.bind_eq_some_iff.1 hX5
                 refine TI.br rfl <| W1.toR (W1.call (vAg eSpot) r4 15 #[.agg #[.int .i64 e2.key.pfs, .int .i64 e2.key.obj, .int .i64 e2.key.off, .int .i64 e2.made, .int .i64 e2.gone, .string e2.val]] (by kernel_rfl) (fun _ => by kernel_rfl) (fun w' hh => elem_Spot_l e2 r4 hb6 w' ) ?_)
                 intro u V12 hV12 hu
                 obtain rfl := sureSpot _ _ _ hu
                 refine TI.all [3] (by kernel_rfl) rfl ⟨?_, trivial⟩
                 refine TI.br rfl (W1.toR (W1.look (.bool (r4 == p1)) (by kernel_rfl) (fun w' hh => exec_eql_DSpot r4 p1 w' rfl rfl rfl) ?_))
                 refine TI.done (by kernel_rfl) ?_
                 cases hX5
                 exact fun a w' hf hh => Exists.intro V12 (And.intro hV12 (And.intro (((((Fr.nil hf).pick hf 21 rfl).pick hf 7 rfl).pick hf 5 rfl).pick hf 4 rfl) (hh.sub (.cons_cons _ (.cons_cons _ (.cons_cons _ (.cons_cons _ (.cons_cons _ (.cons_cons _ (.cons_cons _ (.cons_cons _ (.cons_cons _ (.cons_cons _ (List.Sublist.refl _))))))))))))))
               ·
                rintro a w' ⟨V12, hV12, hf, hh⟩
                refine (?_ : T 24 w V12 ((box b11 39 [.int .i64 e2.key.pfs, .int .i64 e2.key.obj, .int .i64 e2.key.off, .int .i64 e2.made, .int .i64 e2.gone, .string e2.val]) :: (box b10 39 [.int .i64 e2.key.pfs, .int .i64 e2.key.obj, .int .i64 e2.key.off, .int .i64 e2.made, .int .i64 e2.gone, .string e2.val]) :: (box b9 57 [.int .i64 e1.kind, .slice A2 e1.elems.length c2, .slice A3 e1.kids.length c3, .slice A4 e1.seps.length c4, .slice A5 e1.tids.length c5]) :: (box b8 36 [.int .i64 p1.key.pfs, .int .i64 p1.key.obj, .int .i64 p1.key.off, .int .i64 p1.made]) :: (box b7 24 [.int .i64 p0.root, .slice A1 p0.nodes.length c1]) :: (busyo l1 lr1) :: (marko d1) :: (box b4 25 [.int .i64 0]) :: (box b3 39 [.int .i64 x8, .int .i64 x9, .int .i64 x10, .int .i64 x11, .int .i64 x12, .string x13]) :: (box b2 36 [.int .i64 p1.key.pfs, .int .i64 p1.key.obj, .int .i64 p1.key.off, .int .i64 p1.made]) :: G1) [(4, .pointer (some ⟨b3, 0, none⟩)), (5, .pointer (some ⟨b4, 0, none⟩)), (7, .pointer (some ⟨b11, 0, none⟩)), (21, .bool z37)] _) a w' hf hh
                clear hf hh
                refine T.cond z37 (by kernel_rfl) (by kernel_rfl) (fun hc4 => ?_) (fun hc4 => ?_)
                ·
                 rw [hc4, cond_true] at hX4
                 refine T.seq ?_
                 refine T.region ?_
                 refine T.look (.agg #[.int .i64 e2.key.pfs, .int .i64 e2.key.obj, .int .i64 e2.key.off, .int .i64 e2.made, .int .i64 e2.gone, .string e2.val]) (by kernel_rfl) (fun w' hh => exec_loadN (cs := [.int .i64 e2.key.pfs, .int .i64 e2.key.obj, .int .i64 e2.key.off, .int .i64 e2.made, .int .i64 e2.gone, .string e2.val]) rfl rfl (by kernel_rfl) (by kernel_rfl) (fun j u hj => (hh.box_at (i := 0) (cs := [.int .i64 e2.key.pfs, .int .i64 e2.key.obj, .int .i64 e2.key.off, .int .i64 e2.made, .int .i64 e2.gone, .string e2.val]) (by rfl) 0 j).trans (seg_at (n := 6) (by rfl) hj))) ?_
                 refine T.step (W1.store 8 [.int .i64 e2.key.pfs, .int .i64 e2.key.obj, .int .i64 e2.key.off, .int .i64 e2.made, .int .i64 e2.gone, .string e2.val] ((box b11 39 [.int .i64 e2.key.pfs, .int .i64 e2.key.obj, .int .i64 e2.key.off, .int .i64 e2.made, .int .i64 e2.gone, .string e2.val]) :: (box b10 39 [.int .i64 e2.key.pfs, .int .i64 e2.key.obj, .int .i64 e2.key.off, .int .i64 e2.made, .int .i64 e2.gone, .string e2.val]) :: (box b9 57 [.int .i64 e1.kind, .slice A2 e1.elems.length c2, .slice A3 e1.kids.length c3, .slice A4 e1.seps.length c4, .slice A5 e1.tids.length c5]) :: (box b8 36 [.int .i64 p1.key.pfs, .int .i64 p1.key.obj, .int .i64 p1.key.off, .int .i64 p1.made]) :: (box b7 24 [.int .i64 p0.root, .slice A1 p0.nodes.length c1]) :: (busyo l1 lr1) :: (marko d1) :: (box b4 25 [.int .i64 0]) :: (box b3 39 [.int .i64 e2.key.pfs, .int .i64 e2.key.obj, .int .i64 e2.key.off, .int .i64 e2.made, .int .i64 e2.gone, .string e2.val]) :: (box b2 36 [.int .i64 p1.key.pfs, .int .i64 p1.key.obj, .int .i64 p1.key.off, .int .i64 p1.made]) :: G1) (by rfl) rfl (by kernel_rfl) (fun w' hw => exec_store (vs := [.int .i64 e2.key.pfs, .int .i64 e2.key.obj, .int .i64 e2.key.off, .int .i64 e2.made, .int .i64 e2.gone, .string e2.val]) rfl rfl rfl rfl (by kernel_rfl) (one_of rfl) (by simp) rfl hw) ?_)
                 refine T.step (W1.store 7 [.int .i64 0] ((box b11 39 [.int .i64 e2.key.pfs, .int .i64 e2.key.obj, .int .i64 e2.key.off, .int .i64 e2.made, .int .i64 e2.gone, .string e2.val]) :: (box b10 39 [.int .i64 e2.key.pfs, .int .i64 e2.key.obj, .int .i64 e2.key.off, .int .i64 e2.made, .int .i64 e2.gone, .string e2.val]) :: (box b9 57 [.int .i64 e1.kind, .slice A2 e1.elems.length c2, .slice A3 e1.kids.length c3, .slice A4 e1.seps.length c4, .slice A5 e1.tids.length c5]) :: (box b8 36 [.int .i64 p1.key.pfs, .int .i64 p1.key.obj, .int .i64 p1.key.off, .int .i64 p1.made]) :: (box b7 24 [.int .i64 p0.root, .slice A1 p0.nodes.length c1]) :: (busyo l1 lr1) :: (marko d1) :: (box b4 25 [.int .i64 0]) :: (box b3 39 [.int .i64 e2.key.pfs, .int .i64 e2.key.obj, .int .i64 e2.key.off, .int .i64 e2.made, .int .i64 e2.gone, .string e2.val]) :: (box b2 36 [.int .i64 p1.key.pfs, .int .i64 p1.key.obj, .int .i64 p1.key.off, .int .i64 p1.made]) :: G1) (by rfl) rfl (by kernel_rfl) (fun w' hw => exec_store (vs := [.int .i64 0]) rfl rfl rfl rfl (by kernel_rfl) (one_of rfl) (by simp) rfl hw) ?_)
                 refine T.nil ?_
                 cases hX4
                 refine T.ret rfl ?_
                 repeat first | refine T.unthenR ?_ | refine T.unblockR ?_
                 exact T.roundRet .ret [(.exit 0)] 0 5 ((box b11 39 [.int .i64 e2.key.pfs, .int .i64 e2.key.obj, .int .i64 e2.key.off, .int .i64 e2.made, .int .i64 e2.gone, .string e2.val]) :: (box b10 39 [.int .i64 e2.key.pfs, .int .i64 e2.key.obj, .int .i64 e2.key.off, .int .i64 e2.made, .int .i64 e2.gone, .string e2.val]) :: (box b9 57 [.int .i64 e1.kind, .slice A2 e1.elems.length c2, .slice A3 e1.kids.length c3, .slice A4 e1.seps.length c4, .slice A5 e1.tids.length c5]) :: (box b8 36 [.int .i64 p1.key.pfs, .int .i64 p1.key.obj, .int .i64 p1.key.off, .int .i64 p1.made]) :: (box b7 24 [.int .i64 p0.root, .slice A1 p0.nodes.length c1]) :: (loopo l1 lr1 .ret [(.exit 0)] (0 + 1)) :: (marko d1) :: (box b4 25 [.int .i64 0]) :: (box b3 39 [.int .i64 e2.key.pfs, .int .i64 e2.key.obj, .int .i64 e2.key.off, .int .i64 e2.made, .int .i64 e2.gone, .string e2.val]) :: (box b2 36 [.int .i64 p1.key.pfs, .int .i64 p1.key.obj, .int .i64 p1.key.off, .int .i64 p1.made]) :: G1) (by rfl) rfl rfl (fun w' hh => ⟨_, rfl, Exists.intro 0 (Exists.intro e2.key.pfs (Exists.intro e2.key.obj (Exists.intro e2.key.off (Exists.intro e2.made (Exists.intro e2.gone (Exists.intro e2.val (And.intro rfl (Exists.intro V12 (And.intro hV12 (And.intro rfl (hh.sub (.cons _ (.cons_cons _ (.cons_cons _ (.cons_cons _ (.cons_cons _ (.cons_cons _ (.cons_cons _ (.cons_cons _ (.cons_cons _ (.cons_cons _ (List.Sublist.refl _))))))))))))))))))))))⟩)
                ·
                 rw [hc4, cond_false] at hX4
                 refine T.skip_code ?_
                 refine T.exit ?_
                 cases hX4
                 repeat first | refine T.unthenX ?_ | refine T.unblockX rfl ?_
                 exact T.roundExit .ret [(.exit 0)] 1 5 ((box b11 39 [.int .i64 e2.key.pfs, .int .i64 e2.key.obj, .int .i64 e2.key.off, .int .i64 e2.made, .int .i64 e2.gone, .string e2.val]) :: (box b10 39 [.int .i64 e2.key.pfs, .int .i64 e2.key.obj, .int .i64 e2.key.off, .int .i64 e2.made, .int .i64 e2.gone, .string e2.val]) :: (box b9 57 [.int .i64 e1.kind, .slice A2 e1.elems.length c2, .slice A3 e1.kids.length c3, .slice A4 e1.seps.length c4, .slice A5 e1.tids.length c5]) :: (box b8 36 [.int .i64 p1.key.pfs, .int .i64 p1.key.obj, .int .i64 p1.key.off, .int .i64 p1.made]) :: (box b7 24 [.int .i64 p0.root, .slice A1 p0.nodes.length c1]) :: (loopo l1 lr1 .ret [(.exit 0)] (1 + 1)) :: (marko d1) :: (box b4 25 [.int .i64 0]) :: (box b3 39 [.int .i64 x8, .int .i64 x9, .int .i64 x10, .int .i64 x11, .int .i64 x12, .string x13]) :: (box b2 36 [.int .i64 p1.key.pfs, .int .i64 p1.key.obj, .int .i64 p1.key.off, .int .i64 p1.made]) :: G1) (by rfl) rfl rfl (fun w' hh => ⟨_, rfl, Exists.intro 1 (Exists.intro x8 (Exists.intro x9 (Exists.intro x10 (Exists.intro x11 (Exists.intro x12 (Exists.intro x13 (And.intro rfl (Exists.intro V12 (And.intro hV12 (And.intro rfl (hh.sub (.cons _ (.cons_cons _ (.cons_cons _ (.cons_cons _ (.cons_cons _ (.cons_cons _ (.cons_cons _ (.cons_cons _ (.cons_cons _ (.cons_cons _ (List.Sublist.refl _))))))))))))))))))))))⟩)
              ·
               rintro v w' ⟨k4, z31, z32, z33, z34, z35, z36, rfl, V11, hV11, rfl, hh⟩
               try dsimp only at hX3
               refine ⟨V11, ((box b10 39 [.int .i64 e2.key.pfs, .int .i64 e2.key.obj, .int .i64 e2.key.off, .int .i64 e2.made, .int .i64 e2.gone, .string e2.val]) :: (box b9 57 [.int .i64 e1.kind, .slice A2 e1.elems.length c2, .slice A3 e1.kids.length c3, .slice A4 e1.seps.length c4, .slice A5 e1.tids.length c5]) :: (box b8 36 [.int .i64 p1.key.pfs, .int .i64 p1.key.obj, .int .i64 p1.key.off, .int .i64 p1.made]) :: (box b7 24 [.int .i64 p0.root, .slice A1 p0.nodes.length c1]) :: (loopo l1 lr1 .ret [(.exit 0)] (k4 + 1)) :: (marko d1) :: (box b4 25 [.int .i64 0]) :: (box b3 39 [.int .i64 z31, .int .i64 z32, .int .i64 z33, .int .i64 z34, .int .i64 z35, .string z36]) :: (box b2 36 [.int .i64 p1.key.pfs, .int .i64 p1.key.obj, .int .i64 p1.key.off, .int .i64 p1.made]) :: G1), hh, ?_⟩
               clear hh
               refine TI.all [9] (by kernel_rfl) rfl ⟨?_, trivial⟩
               refine TI.br rfl (W1.toR (W1.look (.bool true) (by kernel_rfl) (fun _ _ => by kernel_rfl) ?_))
               refine TI.all [10] (by kernel_rfl) rfl ⟨?_, trivial⟩
               refine TI.br rfl (W1.toR (W1.look (.bool true) (by kernel_rfl) (fun _ _ => by kernel_rfl) ?_))
               refine TI.done (by kernel_rfl) ?_
               cases hX3
               exact fun a w' hf hh => Exists.intro (k4 + 1) (Exists.intro z31 (Exists.intro z32 (Exists.intro z33 (Exists.intro z34 (Exists.intro z35 (Exists.intro z36 (And.intro rfl (Exists.intro V11 (And.intro (View.le_trans (View.le_trans hV9 hV10) hV11) (And.intro (((((((((Fr.nil hf).pick hf 36 rfl).pick hf 22 rfl).pick hf 21 rfl).pick hf 20 rfl).pick hf 9 rfl).pick hf 6 rfl).pick hf 4 rfl).pick hf 3 rfl) (hh.sub (.cons _ (.cons_cons _ (.cons_cons _ (.cons_cons _ (.cons_cons _ (.cons_cons _ (.cons_cons _ (.cons_cons _ (.cons_cons _ (List.Sublist.refl _)))))))))))))))))))))
           ·
            refine TI.br rfl (W1.toR (W1.look (.agg #[.int .i64 p1.key.pfs, .int .i64 p1.key.obj, .int .i64 p1.key.off, .int .i64 p1.made]) (by kernel_rfl) (fun w' hh => exec_loadN (cs := [.int .i64 p1.key.pfs, .int .i64 p1.key.obj, .int .i64 p1.key.off, .int .i64 p1.made]) rfl rfl (by kernel_rfl) (by kernel_rfl) (fun j u hj => (hh.box_at (i := 2) (cs := [.int .i64 p1.key.pfs, .int .i64 p1.key.obj, .int .i64 p1.key.off, .int .i64 p1.made]) (by rfl) 0 j).trans (seg_at (n := 4) (by rfl) hj))) ?_))
            refine TI.all [1] (by kernel_rfl) rfl ⟨?_, trivial⟩
            obtain ⟨r2, hb4, hX3⟩ := Option.bind_eq_some_iff.1 hX3
            refine TI.br rfl <| W1.toR (W1.call (vAg eSpot) r2 15 #[.agg #[.int .i64 e2.key.pfs, .int .i64 e2.key.obj, .int .i64 e2.key.off, .int .i64 e2.made, .int .i64 e2.gone, .string e2.val]] (by kernel_rfl) (fun _ => by kernel_rfl) (fun w' hh => elem_Spot_l e2 r2 hb4 w' ) ?_)
            intro u V9 hV9 hu
            obtain rfl := sureSpot _ _ _ hu
            refine TI.all [3] (by kernel_rfl) rfl ⟨?_, trivial⟩
            obtain ⟨r3, hb5, hX3⟩ := Option.bind_eq_some_iff.1 hX3
            refine TI.br rfl <| W1.toR (W1.call (vSc eInt) r3 14 #[.agg #[.int .i64 r2.key.pfs, .int .i64 r2.key.obj, .int .i64 r2.key.off, .int .i64 r2.made], .agg #[.int .i64 p1.key.pfs, .int .i64 p1.key.obj, .int .i64 p1.key.off, .int .i64 p1.made]] (by kernel_rfl) (fun _ => by kernel_rfl) (fun w' hh => key_CmpSpot_l r2 p1 r3 hb5 w' ) ?_)
            intro u V10 hV10 hu
            obtain rfl := sureInt _ _ _ hu
            refine TI.all [4] (by kernel_rfl) rfl ⟨?_, trivial⟩
            refine TI.br rfl (W1.toR (W1.look (.bool (decide ((0 : Int) ≤ r3))) (by kernel_rfl) (fun _ _ => by kernel_rfl) ?_))
            refine TI.all [5] (by kernel_rfl) rfl ⟨?_, trivial⟩
            refine TI.br rfl (W1.toR (W1.look (.bool (decide ((0 : Int) ≤ r3))) (by kernel_rfl) (fun _ _ => by kernel_rfl) ?_))
            cases hg1 : decide ((0 : Int) ≤ r3)
            ·
             rw [hg1, cond_false] at hX3
             refine TI.all [6, 7] (by kernel_rfl) rfl ⟨?_, ?_, trivial⟩
             ·
              refine TI.no rfl (by kernel_rfl) (by kernel_rfl) ?_
              refine TI.all [7] (by kernel_rfl) rfl ⟨?_, trivial⟩
              refine TI.no rfl (by kernel_rfl) (by kernel_rfl) ?_
              refine TI.all [8] (by kernel_rfl) rfl ⟨?_, trivial⟩
              refine TI.no rfl (by kernel_rfl) (by kernel_rfl) ?_
              refine TI.all [9] (by kernel_rfl) rfl ⟨?_, trivial⟩
              refine TI.no rfl (by kernel_rfl) (by kernel_rfl) ?_
              refine TI.all [10] (by kernel_rfl) rfl ⟨?_, trivial⟩
              refine TI.br rfl (W1.toR (W1.look (.bool false) (by kernel_rfl) (fun _ _ => by kernel_rfl) ?_))
              refine TI.done (by kernel_rfl) ?_
              cases hX3
              exact fun a w' hf hh => Exists.intro 0 (Exists.intro x8 (Exists.intro x9 (Exists.intro x10 (Exists.intro x11 (Exists.intro x12 (Exists.intro x13 (And.intro rfl (Exists.intro V10 (And.intro (View.le_trans hV9 hV10) (And.intro (((((((((Fr.nil hf).pick hf 36 rfl).pick hf 22 rfl).pick hf 21 rfl).pick hf 20 rfl).pick hf 9 rfl).pick hf 6 rfl).pick hf 4 rfl).pick hf 3 rfl) (hh.sub (.cons _ (.cons_cons _ (.cons_cons _ (.cons_cons _ (.cons_cons _ (.cons_cons _ (.cons_cons _ (.cons_cons _ (.cons_cons _ (List.Sublist.refl _)))))))))))))))))))))
             ·
              refine TI.no rfl (by kernel_rfl) (by kernel_rfl) ?_
              refine TI.all [6] (by kernel_rfl) rfl ⟨?_, trivial⟩
              refine TI.no rfl (by kernel_rfl) (by kernel_rfl) ?_
              refine TI.all [8] (by kernel_rfl) rfl ⟨?_, trivial⟩
              refine TI.no rfl (by kernel_rfl) (by kernel_rfl) ?_
              refine TI.all [9] (by kernel_rfl) rfl ⟨?_, trivial⟩
              refine TI.no rfl (by kernel_rfl) (by kernel_rfl) ?_
              refine TI.all [10] (by kernel_rfl) rfl ⟨?_, trivial⟩
              refine TI.br rfl (W1.toR (W1.look (.bool false) (by kernel_rfl) (fun _ _ => by kernel_rfl) ?_))
              refine TI.done (by kernel_rfl) ?_
              cases hX3
              exact fun a w' hf hh => Exists.intro 0 (Exists.intro x8 (Exists.intro x9 (Exists.intro x10 (Exists.intro x11 (Exists.intro x12 (Exists.intro x13 (And.intro rfl (Exists.intro V10 (And.intro (View.le_trans hV9 hV10) (And.intro (((((((((Fr.nil hf).pick hf 36 rfl).pick hf 22 rfl).pick hf 21 rfl).pick hf 20 rfl).pick hf 9 rfl).pick hf 6 rfl).pick hf 4 rfl).pick hf 3 rfl) (hh.sub (.cons _ (.cons_cons _ (.cons_cons _ (.cons_cons _ (.cons_cons _ (.cons_cons _ (.cons_cons _ (.cons_cons _ (.cons_cons _ (List.Sublist.refl _)))))))))))))))))))))
            ·
             rw [hg1, cond_true] at hX3
             refine TI.all [6, 7] (by kernel_rfl) rfl ⟨?_, ?_, trivial⟩
             ·
              refine TI.br rfl (W1.toR (W1.look (.func (.yield l1) #[] #[]) (by kernel_rfl) (fun _ _ => by kernel_rfl) ?_))
              refine TI.all [7] (by kernel_rfl) rfl ⟨?_, trivial⟩
              refine TI.br rfl (W1.toR (W1.look (.agg #[.int .i64 e2.key.pfs, .int .i64 e2.key.obj, .int .i64 e2.key.off, .int .i64 e2.made, .int .i64 e2.gone, .string e2.val]) (by kernel_rfl) (fun w' hh => exec_loadN (cs := [.int .i64 e2.key.pfs, .int .i64 e2.key.obj, .int .i64 e2.key.off, .int .i64 e2.made, .int .i64 e2.gone, .string e2.val]) rfl rfl (by kernel_rfl) (by kernel_rfl) (fun j u hj => (hh.box_at (i := 0) (cs := [.int .i64 e2.key.pfs, .int .i64 e2.key.obj, .int .i64 e2.key.off, .int .i64 e2.made, .int .i64 e2.gone, .string e2.val]) (by rfl) 0 j).trans (seg_at (n := 6) (by rfl) hj))) ?_))
              refine TI.all [8] (by kernel_rfl) rfl ⟨?_, trivial⟩
              obtain ⟨q6, hX4, hX3⟩ := Option.bind_eq_some_iff.1 hX3
              refine TI.br rfl (W1R.yield 4 l1 (fun v w' => ∃ (k4 : Nat) (z31 : Int) (z32 : Int) (z33 : Int) (z34 : Int) (z35 : Int) (z36 : ByteArray), q6 = (k4, z31, z32, z33, z34, z35, z36) ∧ ∃ (V11 : View), View.le V10 V11 ∧ v = .bool false ∧ Hp w V11 ((box b10 39 [.int .i64 e2.key.pfs, .int .i64 e2.key.obj, .int .i64 e2.key.off, .int .i64 e2.made, .int .i64 e2.gone, .string e2.val]) :: (box b9 57 [.int .i64 e1.kind, .slice A2 e1.elems.length c2, .slice A3 e1.kids.length c3, .slice A4 e1.seps.length c4, .slice A5 e1.tids.length c5]) :: (box b8 36 [.int .i64 p1.key.pfs, .int .i64 p1.key.obj, .int .i64 p1.key.off, .int .i64 p1.made]) :: (box b7 24 [.int .i64 p0.root, .slice A1 p0.nodes.length c1]) :: (loopo l1 lr1 .ret [(.exit 0)] (k4 + 1)) :: (marko d1) :: (box b4 25 [.int .i64 0]) :: (box b3 39 [.int .i64 z31, .int .i64 z32, .int .i64 z33, .int .i64 z34, .int .i64 z35, .string z36]) :: (box b2 36 [.int .i64 p1.key.pfs, .int .i64 p1.key.obj, .int .i64 p1.key.off, .int .i64 p1.made]) :: G1) w') (by rfl) hl1 hl2 hl3 hl4 (by rfl) (by kernel_rfl) rfl (by kernel_rfl) rfl ?_ ?_)
              ·
               refine T.region ?_
               refine T.step (W1.new 39 [.int .i64 0, .int .i64 0, .int .i64 0, .int .i64 0, .int .i64 0, .string (ByteArray.mk #[])] (fun b => .pointer (some ⟨b, 0, none⟩)) (by kernel_rfl) (fun _ => by kernel_rfl) (fun b11 => ?_))
               refine T.step (W1.store 0 [.int .i64 e2.key.pfs, .int .i64 e2.key.obj, .int .i64 e2.key.off, .int .i64 e2.made, .int .i64 e2.gone, .string e2.val] ((box b11 39 [.int .i64 e2.key.pfs, .int .i64 e2.key.obj, .int .i64 e2.key.off, .int .i64 e2.made, .int .i64 e2.gone, .string e2.val]) :: (box b10 39 [.int .i64 e2.key.pfs, .int .i64 e2.key.obj, .int .i64 e2.key.off, .int .i64 e2.made, .int .i64 e2.gone, .string e2.val]) :: (box b9 57 [.int .i64 e1.kind, .slice A2 e1.elems.length c2, .slice A3 e1.kids.length c3, .slice A4 e1.seps.length c4, .slice A5 e1.tids.length c5]) :: (box b8 36 [.int .i64 p1.key.pfs, .int .i64 p1.key.obj, .int .i64 p1.key.off, .int .i64 p1.made]) :: (box b7 24 [.int .i64 p0.root, .slice A1 p0.nodes.length c1]) :: (loopo l1 lr1 .ret [(.exit 0)] 0) :: (marko d1) :: (box b4 25 [.int .i64 0]) :: (box b3 39 [.int .i64 x8, .int .i64 x9, .int .i64 x10, .int .i64 x11, .int .i64 x12, .string x13]) :: (box b2 36 [.int .i64 p1.key.pfs, .int .i64 p1.key.obj, .int .i64 p1.key.off, .int .i64 p1.made]) :: G1) (by rfl) rfl (by kernel_rfl) (fun w' hw => exec_store (vs := [.int .i64 e2.key.pfs, .int .i64 e2.key.obj, .int .i64 e2.key.off, .int .i64 e2.made, .int .i64 e2.gone, .string e2.val]) rfl rfl rfl rfl (by kernel_rfl) (one_of rfl) (by simp) rfl hw) ?_)
               refine T.nil ?_
               refine T.unthenN ?_
               refine T.begin 5 ((box b11 39 [.int .i64 e2.key.pfs, .int .i64 e2.key.obj, .int .i64 e2.key.off, .int .i64 e2.made, .int .i64 e2.gone, .string e2.val]) :: (box b10 39 [.int .i64 e2.key.pfs, .int .i64 e2.key.obj, .int .i64 e2.key.off, .int .i64 e2.made, .int .i64 e2.gone, .string e2.val]) :: (box b9 57 [.int .i64 e1.kind, .slice A2 e1.elems.length c2, .slice A3 e1.kids.length c3, .slice A4 e1.seps.length c4, .slice A5 e1.tids.length c5]) :: (box b8 36 [.int .i64 p1.key.pfs, .int .i64 p1.key.obj, .int .i64 p1.key.off, .int .i64 p1.made]) :: (box b7 24 [.int .i64 p0.root, .slice A1 p0.nodes.length c1]) :: (busyo l1 lr1) :: (marko d1) :: (box b4 25 [.int .i64 0]) :: (box b3 39 [.int .i64 x8, .int .i64 x9, .int .i64 x10, .int .i64 x11, .int .i64 x12, .string x13]) :: (box b2 36 [.int .i64 p1.key.pfs, .int .i64 p1.key.obj, .int .i64 p1.key.off, .int .i64 p1.made]) :: G1) (by rfl) rfl ?_
               refine T.block ?_
               refine T.seq ?_
               obtain ⟨z37, hX5, hX4⟩ := Option.bind_eq_some_iff.1 hX4
               refine T.cut (fun a w' => ∃ (V12 : View), View.le V10 V12 ∧ Fr 24 [(4, .pointer (some ⟨b3, 0, none⟩)), (5, .pointer (some ⟨b4, 0, none⟩)), (7, .pointer (some ⟨b11, 0, none⟩)), (21, .bool z37)] a ∧ Hp w V12 ((box b11 39 [.int .i64 e2.key.pfs, .int .i64 e2.key.obj, .int .i64 e2.key.off, .int .i64 e2.made, .int .i64 e2.gone, .string e2.val]) :: (box b10 39 [.int .i64 e2.key.pfs, .int .i64 e2.key.obj, .int .i64 e2.key.off, .int .i64 e2.made, .int .i64 e2.gone, .string e2.val]) :: (box b9 57 [.int .i64 e1.kind, .slice A2 e1.elems.length c2, .slice A3 e1.kids.length c3, .slice A4 e1.seps.length c4, .slice A5 e1.tids.length c5]) :: (box b8 36 [.int .i64 p1.key.pfs, .int .i64 p1.key.obj, .int .i64 p1.key.off, .int .i64 p1.made]) :: (box b7 24 [.int .i64 p0.root, .slice A1 p0.nodes.length c1]) :: (busyo l1 lr1) :: (marko d1) :: (box b4 25 [.int .i64 0]) :: (box b3 39 [.int .i64 x8, .int .i64 x9, .int .i64 x10, .int .i64 x11, .int .i64 x12, .string x13]) :: (box b2 36 [.int .i64 p1.key.pfs, .int .i64 p1.key.obj, .int .i64 p1.key.off, .int .i64 p1.made]) :: G1) w') ?_ ?_
               ·
                refine T.anyI (by kernel_rfl) ?_
                refine TI.all [0, 2] (by kernel_rfl) rfl ⟨?_, ?_, trivial⟩
                ·
                 refine TI.br rfl (W1.toR (W1.look (.agg #[.int .i64 e2.key.pfs, .int .i64 e2.key.obj, .int .i64 e2.key.off, .int .i64 e2.made, .int .i64 e2.gone, .string e2.val]) (by kernel_rfl) (fun w' hh => exec_loadN (cs := [.int .i64 e2.key.pfs, .int .i64 e2.key.obj, .int .i64 e2.key.off, .int .i64 e2.made, .int .i64 e2.gone, .string e2.val]) rfl rfl (by kernel_rfl) (by kernel_rfl) (fun j u hj => (hh.box_at (i := 0) (cs := [.int .i64 e2.key.pfs, .int .i64 e2.key.obj, .int .i64 e2.key.off, .int .i64 e2.made, .int .i64 e2.gone, .string e2.val]) (by rfl) 0 j).trans (seg_at (n := 6) (by rfl) hj))) ?_))
                 refine TI.all [1, 2] (by kernel_rfl) rfl ⟨?_, ?_, trivial⟩
                 ·
                  obtain ⟨r4, hb6, hX5⟩ := Option.bind_eq_some_iff.1 hX5
                  refine TI.br rfl <| W1.toR (W1.call (vAg eSpot) r4 15 #[.agg #[.int .i64 e2.key.pfs, .int .i64 e2.key.obj, .int .i64 e2.key.off, .int .i64 e2.made, .int .i64 e2.gone, .string e2.val]] (by kernel_rfl) (fun _ => by kernel_rfl) (fun w' hh => elem_Spot_l e2 r4 hb6 w' ) ?_)
                  intro u V12 hV12 hu
                  obtain rfl := sureSpot _ _ _ hu
                  refine TI.all [2] (by kernel_rfl) rfl ⟨?_, trivial⟩
                  refine TI.br rfl (W1.toR (W1.look (.agg #[.int .i64 p1.key.pfs, .int .i64 p1.key.obj, .int .i64 p1.key.off, .int .i64 p1.made]) (by kernel_rfl) (fun w' hh => exec_loadN (cs := [.int .i64 p1.key.pfs, .int .i64 p1.key.obj, .int .i64 p1.key.off, .int .i64 p1.made]) rfl rfl (by kernel_rfl) (by kernel_rfl) (fun j u hj => (hh.box_at (i := 9) (cs := [.int .i64 p1.key.pfs, .int .i64 p1.key.obj, .int .i64 p1.key.off, .int .i64 p1.made]) (by rfl) 0 j).trans (seg_at (n := 4) (by rfl) hj))) ?_))
                  refine TI.all [3] (by kernel_rfl) rfl ⟨?_, trivial⟩
                  refine TI.br rfl (W1.toR (W1.look (.bool (r4 == p1)) (by kernel_rfl) (fun w' hh => exec_eql_DSpot r4 p1 w' rfl rfl rfl) ?_))
                  refine TI.done (by kernel_rfl) ?_
                  cases hX5
                  exact fun a w' hf hh => Exists.intro V12 (And.intro hV12 (And.intro (((((Fr.nil hf).pick hf 21 rfl).pick hf 7 rfl).pick hf 5 rfl).pick hf 4 rfl) (hh.sub (.cons_cons _ (.cons_cons _ (.cons_cons _ (.cons_cons _ (.cons_cons _ (.cons_cons _ (.cons_cons _ (.cons_cons _ (.cons_cons _ (.cons_cons _ (List.Sublist.refl _))))))))))))))
                 ·
                  refine TI.br rfl (W1.toR (W1.look (.agg #[.int .i64 p1.key.pfs, .int .i64 p1.key.obj, .int .i64 p1.key.off, .int .i64 p1.made]) (by kernel_rfl) (fun w' hh => exec_loadN (cs := [.int .i64 p1.key.pfs, .int .i64 p1.key.obj, .int .i64 p1.key.off, .int .i64 p1.made]) rfl rfl (by kernel_rfl) (by kernel_rfl) (fun j u hj => (hh.box_at (i := 9) (cs := [.int .i64 p1.key.pfs, .int .i64 p1.key.obj, .int .i64 p1.key.off, .int .i64 p1.made]) (by rfl) 0 j).trans (seg_at (n := 4) (by rfl) hj))) ?_))
                  refine TI.all [1] (by kernel_rfl) rfl ⟨?_, trivial⟩
                  obtain ⟨r4, hb6, hX5⟩ := Option.bind_eq_some_iff.1 hX5
                  refine TI.br rfl <| W1.toR (W1.call (vAg eSpot) r4 15 #[.agg #[.int .i64 e2.key.pfs, .int .i64 e2.key.obj, .int .i64 e2.key.off, .int .i64 e2.made, .int .i64 e2.gone, .string e2.val]] (by kernel_rfl) (fun _ => by kernel_rfl) (fun w' hh => elem_Spot_l e2 r4 hb6 w' ) ?_)
                  intro u V12 hV12 hu
                  obtain rfl := sureSpot _ _ _ hu
                  refine TI.all [3] (by kernel_rfl) rfl ⟨?_, trivial⟩
                  refine TI.br rfl (W1.toR (W1.look (.bool (r4 == p1)) (by kernel_rfl) (fun w' hh => exec_eql_DSpot r4 p1 w' rfl rfl rfl) ?_))
                  refine TI.done (by kernel_rfl) ?_
                  cases hX5
                  exact fun a w' hf hh => Exists.intro V12 (And.intro hV12 (And.intro (((((Fr.nil hf).pick hf 21 rfl).pick hf 7 rfl).pick hf 5 rfl).pick hf 4 rfl) (hh.sub (.cons_cons _ (.cons_cons _ (.cons_cons _ (.cons_cons _ (.cons_cons _ (.cons_cons _ (.cons_cons _ (.cons_cons _ (.cons_cons _ (.cons_cons _ (List.Sublist.refl _))))))))))))))
                ·
                 refine TI.br rfl (W1.toR (W1.look (.agg #[.int .i64 p1.key.pfs, .int .i64 p1.key.obj, .int .i64 p1.key.off, .int .i64 p1.made]) (by kernel_rfl) (fun w' hh => exec_loadN (cs := [.int .i64 p1.key.pfs, .int .i64 p1.key.obj, .int .i64 p1.key.off, .int .i64 p1.made]) rfl rfl (by kernel_rfl) (by kernel_rfl) (fun j u hj => (hh.box_at (i := 9) (cs := [.int .i64 p1.key.pfs, .int .i64 p1.key.obj, .int .i64 p1.key.off, .int .i64 p1.made]) (by rfl) 0 j).trans (seg_at (n := 4) (by rfl) hj))) ?_))
                 refine TI.all [0] (by kernel_rfl) rfl ⟨?_, trivial⟩
                 refine TI.br rfl (W1.toR (W1.look (.agg #[.int .i64 e2.key.pfs, .int .i64 e2.key.obj, .int .i64 e2.key.off, .int .i64 e2.made, .int .i64 e2.gone, .string e2.val]) (by kernel_rfl) (fun w' hh => exec_loadN (cs := [.int .i64 e2.key.pfs, .int .i64 e2.key.obj, .int .i64 e2.key.off, .int .i64 e2.made, .int .i64 e2.gone, .string e2.val]) rfl rfl (by kernel_rfl) (by kernel_rfl) (fun j u hj => (hh.box_at (i := 0) (cs := [.int .i64 e2.key.pfs, .int .i64 e2.key.obj, .int .i64 e2.key.off, .int .i64 e2.made, .int .i64 e2.gone, .string e2.val]) (by rfl) 0 j).trans (seg_at (n := 6) (by rfl) hj))) ?_))
                 refine TI.all [1] (by kernel_rfl) rfl ⟨?_, trivial⟩
                 obtain ⟨r4, hb6, hX5⟩ := Option.bind_eq_some_iff.1 hX5
                 refine TI.br rfl <| W1.toR (W1.call (vAg eSpot) r4 15 #[.agg #[.int .i64 e2.key.pfs, .int .i64 e2.key.obj, .int .i64 e2.key.off, .int .i64 e2.made, .int .i64 e2.gone, .string e2.val]] (by kernel_rfl) (fun _ => by kernel_rfl) (fun w' hh => elem_Spot_l e2 r4 hb6 w' ) ?_)
                 intro u V12 hV12 hu
                 obtain rfl := sureSpot _ _ _ hu
                 refine TI.all [3] (by kernel_rfl) rfl ⟨?_, trivial⟩
                 refine TI.br rfl (W1.toR (W1.look (.bool (r4 == p1)) (by kernel_rfl) (fun w' hh => exec_eql_DSpot r4 p1 w' rfl rfl rfl) ?_))
                 refine TI.done (by kernel_rfl) ?_
                 cases hX5
                 exact fun a w' hf hh => Exists.intro V12 (And.intro hV12 (And.intro (((((Fr.nil hf).pick hf 21 rfl).pick hf 7 rfl).pick hf 5 rfl).pick hf 4 rfl) (hh.sub (.cons_cons _ (.cons_cons _ (.cons_cons _ (.cons_cons _ (.cons_cons _ (.cons_cons _ (.cons_cons _ (.cons_cons _ (.cons_cons _ (.cons_cons _ (List.Sublist.refl _))))))))))))))
               ·
                rintro a w' ⟨V12, hV12, hf, hh⟩
                refine (?_ : T 24 w V12 ((box b11 39 [.int .i64 e2.key.pfs, .int .i64 e2.key.obj, .int .i64 e2.key.off, .int .i64 e2.made, .int .i64 e2.gone, .string e2.val]) :: (box b10 39 [.int .i64 e2.key.pfs, .int .i64 e2.key.obj, .int .i64 e2.key.off, .int .i64 e2.made, .int .i64 e2.gone, .string e2.val]) :: (box b9 57 [.int .i64 e1.kind, .slice A2 e1.elems.length c2, .slice A3 e1.kids.length c3, .slice A4 e1.seps.length c4, .slice A5 e1.tids.length c5]) :: (box b8 36 [.int .i64 p1.key.pfs, .int .i64 p1.key.obj, .int .i64 p1.key.off, .int .i64 p1.made]) :: (box b7 24 [.int .i64 p0.root, .slice A1 p0.nodes.length c1]) :: (busyo l1 lr1) :: (marko d1) :: (box b4 25 [.int .i64 0]) :: (box b3 39 [.int .i64 x8, .int .i64 x9, .int .i64 x10, .int .i64 x11, .int .i64 x12, .string x13]) :: (box b2 36 [.int .i64 p1.key.pfs, .int .i64 p1.key.obj, .int .i64 p1.key.off, .int .i64 p1.made]) :: G1) [(4, .pointer (some ⟨b3, 0, none⟩)), (5, .pointer (some ⟨b4, 0, none⟩)), (7, .pointer (some ⟨b11, 0, none⟩)), (21, .bool z37)] _) a w' hf hh
                clear hf hh
                refine T.cond z37 (by kernel_rfl) (by kernel_rfl) (fun hc4 => ?_) (fun hc4 => ?_)
                ·
                 rw [hc4, cond_true] at hX4
                 refine T.seq ?_
                 refine T.region ?_
                 refine T.look (.agg #[.int .i64 e2.key.pfs, .int .i64 e2.key.obj, .int .i64 e2.key.off, .int .i64 e2.made, .int .i64 e2.gone, .string e2.val]) (by kernel_rfl) (fun w' hh => exec_loadN (cs := [.int .i64 e2.key.pfs, .int .i64 e2.key.obj, .int .i64 e2.key.off, .int .i64 e2.made, .int .i64 e2.gone, .string e2.val]) rfl rfl (by kernel_rfl) (by kernel_rfl) (fun j u hj => (hh.box_at (i := 0) (cs := [.int .i64 e2.key.pfs, .int .i64 e2.key.obj, .int .i64 e2.key.off, .int .i64 e2.made, .int .i64 e2.gone, .string e2.val]) (by rfl) 0 j).trans (seg_at (n := 6) (by rfl) hj))) ?_
                 refine T.step (W1.store 8 [.int .i64 e2.key.pfs, .int .i64 e2.key.obj, .int .i64 e2.key.off, .int .i64 e2.made, .int .i64 e2.gone, .string e2.val] ((box b11 39 [.int .i64 e2.key.pfs, .int .i64 e2.key.obj, .int .i64 e2.key.off, .int .i64 e2.made, .int .i64 e2.gone, .string e2.val]) :: (box b10 39 [.int .i64 e2.key.pfs, .int .i64 e2.key.obj, .int .i64 e2.key.off, .int .i64 e2.made, .int .i64 e2.gone, .string e2.val]) :: (box b9 57 [.int .i64 e1.kind, .slice A2 e1.elems.length c2, .slice A3 e1.kids.length c3, .slice A4 e1.seps.length c4, .slice A5 e1.tids.length c5]) :: (box b8 36 [.int .i64 p1.key.pfs, .int .i64 p1.key.obj, .int .i64 p1.key.off, .int .i64 p1.made]) :: (box b7 24 [.int .i64 p0.root, .slice A1 p0.nodes.length c1]) :: (busyo l1 lr1) :: (marko d1) :: (box b4 25 [.int .i64 0]) :: (box b3 39 [.int .i64 e2.key.pfs, .int .i64 e2.key.obj, .int .i64 e2.key.off, .int .i64 e2.made, .int .i64 e2.gone, .string e2.val]) :: (box b2 36 [.int .i64 p1.key.pfs, .int .i64 p1.key.obj, .int .i64 p1.key.off, .int .i64 p1.made]) :: G1) (by rfl) rfl (by kernel_rfl) (fun w' hw => exec_store (vs := [.int .i64 e2.key.pfs, .int .i64 e2.key.obj, .int .i64 e2.key.off, .int .i64 e2.made, .int .i64 e2.gone, .string e2.val]) rfl rfl rfl rfl (by kernel_rfl) (one_of rfl) (by simp) rfl hw) ?_)
                 refine T.step (W1.store 7 [.int .i64 0] ((box b11 39 [.int .i64 e2.key.pfs, .int .i64 e2.key.obj, .int .i64 e2.key.off, .int .i64 e2.made, .int .i64 e2.gone, .string e2.val]) :: (box b10 39 [.int .i64 e2.key.pfs, .int .i64 e2.key.obj, .int .i64 e2.key.off, .int .i64 e2.made, .int .i64 e2.gone, .string e2.val]) :: (box b9 57 [.int .i64 e1.kind, .slice A2 e1.elems.length c2, .slice A3 e1.kids.length c3, .slice A4 e1.seps.length c4, .slice A5 e1.tids.length c5]) :: (box b8 36 [.int .i64 p1.key.pfs, .int .i64 p1.key.obj, .int .i64 p1.key.off, .int .i64 p1.made]) :: (box b7 24 [.int .i64 p0.root, .slice A1 p0.nodes.length c1]) :: (busyo l1 lr1) :: (marko d1) :: (box b4 25 [.int .i64 0]) :: (box b3 39 [.int .i64 e2.key.pfs, .int .i64 e2.key.obj, .int .i64 e2.key.off, .int .i64 e2.made, .int .i64 e2.gone, .string e2.val]) :: (box b2 36 [.int .i64 p1.key.pfs, .int .i64 p1.key.obj, .int .i64 p1.key.off, .int .i64 p1.made]) :: G1) (by rfl) rfl (by kernel_rfl) (fun w' hw => exec_store (vs := [.int .i64 0]) rfl rfl rfl rfl (by kernel_rfl) (one_of rfl) (by simp) rfl hw) ?_)
                 refine T.nil ?_
                 cases hX4
                 refine T.ret rfl ?_
                 repeat first | refine T.unthenR ?_ | refine T.unblockR ?_
                 exact T.roundRet .ret [(.exit 0)] 0 5 ((box b11 39 [.int .i64 e2.key.pfs, .int .i64 e2.key.obj, .int .i64 e2.key.off, .int .i64 e2.made, .int .i64 e2.gone, .string e2.val]) :: (box b10 39 [.int .i64 e2.key.pfs, .int .i64 e2.key.obj, .int .i64 e2.key.off, .int .i64 e2.made, .int .i64 e2.gone, .string e2.val]) :: (box b9 57 [.int .i64 e1.kind, .slice A2 e1.elems.length c2, .slice A3 e1.kids.length c3, .slice A4 e1.seps.length c4, .slice A5 e1.tids.length c5]) :: (box b8 36 [.int .i64 p1.key.pfs, .int .i64 p1.key.obj, .int .i64 p1.key.off, .int .i64 p1.made]) :: (box b7 24 [.int .i64 p0.root, .slice A1 p0.nodes.length c1]) :: (loopo l1 lr1 .ret [(.exit 0)] (0 + 1)) :: (marko d1) :: (box b4 25 [.int .i64 0]) :: (box b3 39 [.int .i64 e2.key.pfs, .int .i64 e2.key.obj, .int .i64 e2.key.off, .int .i64 e2.made, .int .i64 e2.gone, .string e2.val]) :: (box b2 36 [.int .i64 p1.key.pfs, .int .i64 p1.key.obj, .int .i64 p1.key.off, .int .i64 p1.made]) :: G1) (by rfl) rfl rfl (fun w' hh => ⟨_, rfl, Exists.intro 0 (Exists.intro e2.key.pfs (Exists.intro e2.key.obj (Exists.intro e2.key.off (Exists.intro e2.made (Exists.intro e2.gone (Exists.intro e2.val (And.intro rfl (Exists.intro V12 (And.intro hV12 (And.intro rfl (hh.sub (.cons _ (.cons_cons _ (.cons_cons _ (.cons_cons _ (.cons_cons _ (.cons_cons _ (.cons_cons _ (.cons_cons _ (.cons_cons _ (.cons_cons _ (List.Sublist.refl _))))))))))))))))))))))⟩)
                ·
                 rw [hc4, cond_false] at hX4
                 refine T.skip_code ?_
                 refine T.exit ?_
                 cases hX4
                 repeat first | refine T.unthenX ?_ | refine T.unblockX rfl ?_
                 exact T.roundExit .ret [(.exit 0)] 1 5 ((box b11 39 [.int .i64 e2.key.pfs, .int .i64 e2.key.obj, .int .i64 e2.key.off, .int .i64 e2.made, .int .i64 e2.gone, .string e2.val]) :: (box b10 39 [.int .i64 e2.key.pfs, .int .i64 e2.key.obj, .int .i64 e2.key.off, .int .i64 e2.made, .int .i64 e2.gone, .string e2.val]) :: (box b9 57 [.int .i64 e1.kind, .slice A2 e1.elems.length c2, .slice A3 e1.kids.length c3, .slice A4 e1.seps.length c4, .slice A5 e1.tids.length c5]) :: (box b8 36 [.int .i64 p1.key.pfs, .int .i64 p1.key.obj, .int .i64 p1.key.off, .int .i64 p1.made]) :: (box b7 24 [.int .i64 p0.root, .slice A1 p0.nodes.length c1]) :: (loopo l1 lr1 .ret [(.exit 0)] (1 + 1)) :: (marko d1) :: (box b4 25 [.int .i64 0]) :: (box b3 39 [.int .i64 x8, .int .i64 x9, .int .i64 x10, .int .i64 x11, .int .i64 x12, .string x13]) :: (box b2 36 [.int .i64 p1.key.pfs, .int .i64 p1.key.obj, .int .i64 p1.key.off, .int .i64 p1.made]) :: G1) (by rfl) rfl rfl (fun w' hh => ⟨_, rfl, Exists.intro 1 (Exists.intro x8 (Exists.intro x9 (Exists.intro x10 (Exists.intro x11 (Exists.intro x12 (Exists.intro x13 (And.intro rfl (Exists.intro V12 (And.intro hV12 (And.intro rfl (hh.sub (.cons _ (.cons_cons _ (.cons_cons _ (.cons_cons _ (.cons_cons _ (.cons_cons _ (.cons_cons _ (.cons_cons _ (.cons_cons _ (.cons_cons _ (List.Sublist.refl _))))))))))))))))))))))⟩)
              ·
               rintro v w' ⟨k4, z31, z32, z33, z34, z35, z36, rfl, V11, hV11, rfl, hh⟩
               try dsimp only at hX3
               refine ⟨V11, ((box b10 39 [.int .i64 e2.key.pfs, .int .i64 e2.key.obj, .int .i64 e2.key.off, .int .i64 e2.made, .int .i64 e2.gone, .string e2.val]) :: (box b9 57 [.int .i64 e1.kind, .slice A2 e1.elems.length c2, .slice A3 e1.kids.length c3, .slice A4 e1.seps.length c4, .slice A5 e1.tids.length c5]) :: (box b8 36 [.int .i64 p1.key.pfs, .int .i64 p1.key.obj, .int .i64 p1.key.off, .int .i64 p1.made]) :: (box b7 24 [.int .i64 p0.root, .slice A1 p0.nodes.length c1]) :: (loopo l1 lr1 .ret [(.exit 0)] (k4 + 1)) :: (marko d1) :: (box b4 25 [.int .i64 0]) :: (box b3 39 [.int .i64 z31, .int .i64 z32, .int .i64 z33, .int .i64 z34, .int .i64 z35, .string z36]) :: (box b2 36 [.int .i64 p1.key.pfs, .int .i64 p1.key.obj, .int .i64 p1.key.off, .int .i64 p1.made]) :: G1), hh, ?_⟩
               clear hh
               refine TI.all [9] (by kernel_rfl) rfl ⟨?_, trivial⟩
               refine TI.br rfl (W1.toR (W1.look (.bool true) (by kernel_rfl) (fun _ _ => by kernel_rfl) ?_))
               refine TI.all [10] (by kernel_rfl) rfl ⟨?_, trivial⟩
               refine TI.br rfl (W1.toR (W1.look (.bool true) (by kernel_rfl) (fun _ _ => by kernel_rfl) ?_))
               refine TI.done (by kernel_rfl) ?_
               cases hX3
               exact fun a w' hf hh => Exists.intro (k4 + 1) (Exists.intro z31 (Exists.intro z32 (Exists.intro z33 (Exists.intro z34 (Exists.intro z35 (Exists.intro z36 (And.intro rfl (Exists.intro V11 (And.intro (View.le_trans (View.le_trans hV9 hV10) hV11) (And.intro (((((((((Fr.nil hf).pick hf 36 rfl).pick hf 22 rfl).pick hf 21 rfl).pick hf 20 rfl).pick hf 9 rfl).pick hf 6 rfl).pick hf 4 rfl).pick hf 3 rfl) (hh.sub (.cons _ (.cons_cons _ (.cons_cons _ (.cons_cons _ (.cons_cons _ (.cons_cons _ (.cons_cons _ (.cons_cons _ (.cons_cons _ (List.Sublist.refl _)))))))))))))))))))))
             ·
              refine TI.br rfl (W1.toR (W1.look (.agg #[.int .i64 e2.key.pfs, .int .i64 e2.key.obj, .int .i64 e2.key.off, .int .i64 e2.made, .int .i64 e2.gone, .string e2.val]) (by kernel_rfl) (fun w' hh => exec_loadN (cs := [.int .i64 e2.key.pfs, .int .i64 e2.key.obj, .int .i64 e2.key.off, .int .i64 e2.made, .int .i64 e2.gone, .string e2.val]) rfl rfl (by kernel_rfl) (by kernel_rfl) (fun j u hj => (hh.box_at (i := 0) (cs := [.int .i64 e2.key.pfs, .int .i64 e2.key.obj, .int .i64 e2.key.off, .int .i64 e2.made, .int .i64 e2.gone, .string e2.val]) (by rfl) 0 j).trans (seg_at (n := 6) (by rfl) hj))) ?_))
              refine TI.all [6] (by kernel_rfl) rfl ⟨?_, trivial⟩
              refine TI.br rfl (W1.toR (W1.look (.func (.yield l1) #[] #[]) (by kernel_rfl) (fun _ _ => by kernel_rfl) ?_))
              refine TI.all [8] (by kernel_rfl) rfl ⟨?_, trivial⟩
              obtain ⟨q6, hX4, hX3⟩ := Option.bind_eq_some_iff.1 hX3
              refine TI.br rfl (W1R.yield 4 l1 (fun v w' => ∃ (k4 : Nat) (z31 : Int) (z32 : Int) (z33 : Int) (z34 : Int) (z35 : Int) (z36 : ByteArray), q6 = (k4, z31, z32, z33, z34, z35, z36) ∧ ∃ (V11 : View), View.le V10 V11 ∧ v = .bool false ∧ Hp w V11 ((box b10 39 [.int .i64 e2.key.pfs, .int .i64 e2.key.obj, .int .i64 e2.key.off, .int .i64 e2.made, .int .i64 e2.gone, .string e2.val]) :: (box b9 57 [.int .i64 e1.kind, .slice A2 e1.elems.length c2, .slice A3 e1.kids.length c3, .slice A4 e1.seps.length c4, .slice A5 e1.tids.length c5]) :: (box b8 36 [.int .i64 p1.key.pfs, .int .i64 p1.key.obj, .int .i64 p1.key.off, .int .i64 p1.made]) :: (box b7 24 [.int .i64 p0.root, .slice A1 p0.nodes.length c1]) :: (loopo l1 lr1 .ret [(.exit 0)] (k4 + 1)) :: (marko d1) :: (box b4 25 [.int .i64 0]) :: (box b3 39 [.int .i64 z31, .int .i64 z32, .int .i64 z33, .int .i64 z34, .int .i64 z35, .string z36]) :: (box b2 36 [.int .i64 p1.key.pfs, .int .i64 p1.key.obj, .int .i64 p1.key.off, .int .i64 p1.made]) :: G1) w') (by rfl) hl1 hl2 hl3 hl4 (by rfl) (by kernel_rfl) rfl (by kernel_rfl) rfl ?_ ?_)
              ·
               refine T.region ?_
               refine T.step (W1.new 39 [.int .i64 0, .int .i64 0, .int .i64 0, .int .i64 0, .int .i64 0, .string (ByteArray.mk #[])] (fun b => .pointer (some ⟨b, 0, none⟩)) (by kernel_rfl) (fun _ => by kernel_rfl) (fun b11 => ?_))
               refine T.step (W1.store 0 [.int .i64 e2.key.pfs, .int .i64 e2.key.obj, .int .i64 e2.key.off, .int .i64 e2.made, .int .i64 e2.gone, .string e2.val] ((box b11 39 [.int .i64 e2.key.pfs, .int .i64 e2.key.obj, .int .i64 e2.key.off, .int .i64 e2.made, .int .i64 e2.gone, .string e2.val]) :: (box b10 39 [.int .i64 e2.key.pfs, .int .i64 e2.key.obj, .int .i64 e2.key.off, .int .i64 e2.made, .int .i64 e2.gone, .string e2.val]) :: (box b9 57 [.int .i64 e1.kind, .slice A2 e1.elems.length c2, .slice A3 e1.kids.length c3, .slice A4 e1.seps.length c4, .slice A5 e1.tids.length c5]) :: (box b8 36 [.int .i64 p1.key.pfs, .int .i64 p1.key.obj, .int .i64 p1.key.off, .int .i64 p1.made]) :: (box b7 24 [.int .i64 p0.root, .slice A1 p0.nodes.length c1]) :: (loopo l1 lr1 .ret [(.exit 0)] 0) :: (marko d1) :: (box b4 25 [.int .i64 0]) :: (box b3 39 [.int .i64 x8, .int .i64 x9, .int .i64 x10, .int .i64 x11, .int .i64 x12, .string x13]) :: (box b2 36 [.int .i64 p1.key.pfs, .int .i64 p1.key.obj, .int .i64 p1.key.off, .int .i64 p1.made]) :: G1) (by rfl) rfl (by kernel_rfl) (fun w' hw => exec_store (vs := [.int .i64 e2.key.pfs, .int .i64 e2.key.obj, .int .i64 e2.key.off, .int .i64 e2.made, .int .i64 e2.gone, .string e2.val]) rfl rfl rfl rfl (by kernel_rfl) (one_of rfl) (by simp) rfl hw) ?_)
               refine T.nil ?_
               refine T.unthenN ?_
               refine T.begin 5 ((box b11 39 [.int .i64 e2.key.pfs, .int .i64 e2.key.obj, .int .i64 e2.key.off, .int .i64 e2.made, .int .i64 e2.gone, .string e2.val]) :: (box b10 39 [.int .i64 e2.key.pfs, .int .i64 e2.key.obj, .int .i64 e2.key.off, .int .i64 e2.made, .int .i64 e2.gone, .string e2.val]) :: (box b9 57 [.int .i64 e1.kind, .slice A2 e1.elems.length c2, .slice A3 e1.kids.length c3, .slice A4 e1.seps.length c4, .slice A5 e1.tids.length c5]) :: (box b8 36 [.int .i64 p1.key.pfs, .int .i64 p1.key.obj, .int .i64 p1.key.off, .int .i64 p1.made]) :: (box b7 24 [.int .i64 p0.root, .slice A1 p0.nodes.length c1]) :: (busyo l1 lr1) :: (marko d1) :: (box b4 25 [.int .i64 0]) :: (box b3 39 [.int .i64 x8, .int .i64 x9, .int .i64 x10, .int .i64 x11, .int .i64 x12, .string x13]) :: (box b2 36 [.int .i64 p1.key.pfs, .int .i64 p1.key.obj, .int .i64 p1.key.off, .int .i64 p1.made]) :: G1) (by rfl) rfl ?_
               refine T.block ?_
               refine T.seq ?_
               obtain ⟨z37, hX5, hX4⟩ := Option.bind_eq_some_iff.1 hX4
               refine T.cut (fun a w' => ∃ (V12 : View), View.le V10 V12 ∧ Fr 24 [(4, .pointer (some ⟨b3, 0, none⟩)), (5, .pointer (some ⟨b4, 0, none⟩)), (7, .pointer (some ⟨b11, 0, none⟩)), (21, .bool z37)] a ∧ Hp w V12 ((box b11 39 [.int .i64 e2.key.pfs, .int .i64 e2.key.obj, .int .i64 e2.key.off, .int .i64 e2.made, .int .i64 e2.gone, .string e2.val]) :: (box b10 39 [.int .i64 e2.key.pfs, .int .i64 e2.key.obj, .int .i64 e2.key.off, .int .i64 e2.made, .int .i64 e2.gone, .string e2.val]) :: (box b9 57 [.int .i64 e1.kind, .slice A2 e1.elems.length c2, .slice A3 e1.kids.length c3, .slice A4 e1.seps.length c4, .slice A5 e1.tids.length c5]) :: (box b8 36 [.int .i64 p1.key.pfs, .int .i64 p1.key.obj, .int .i64 p1.key.off, .int .i64 p1.made]) :: (box b7 24 [.int .i64 p0.root, .slice A1 p0.nodes.length c1]) :: (busyo l1 lr1) :: (marko d1) :: (box b4 25 [.int .i64 0]) :: (box b3 39 [.int .i64 x8, .int .i64 x9, .int .i64 x10, .int .i64 x11, .int .i64 x12, .string x13]) :: (box b2 36 [.int .i64 p1.key.pfs, .int .i64 p1.key.obj, .int .i64 p1.key.off, .int .i64 p1.made]) :: G1) w') ?_ ?_
               ·
                refine T.anyI (by kernel_rfl) ?_
                refine TI.all [0, 2] (by kernel_rfl) rfl ⟨?_, ?_, trivial⟩
                ·
                 refine TI.br rfl (W1.toR (W1.look (.agg #[.int .i64 e2.key.pfs, .int .i64 e2.key.obj, .int .i64 e2.key.off, .int .i64 e2.made, .int .i64 e2.gone, .string e2.val]) (by kernel_rfl) (fun w' hh => exec_loadN (cs := [.int .i64 e2.key.pfs, .int .i64 e2.key.obj, .int .i64 e2.key.off, .int .i64 e2.made, .int .i64 e2.gone, .string e2.val]) rfl rfl (by kernel_rfl) (by kernel_rfl) (fun j u hj => (hh.box_at (i := 0) (cs := [.int .i64 e2.key.pfs, .int .i64 e2.key.obj, .int .i64 e2.key.off, .int .i64 e2.made, .int .i64 e2.gone, .string e2.val]) (by rfl) 0 j).trans (seg_at (n := 6) (by rfl) hj))) ?_))
                 refine TI.all [1, 2] (by kernel_rfl) rfl ⟨?_, ?_, trivial⟩
                 ·
                  obtain ⟨r4, hb6, hX5⟩ := Option.bind_eq_some_iff.1 hX5
                  refine TI.br rfl <| W1.toR (W1.call (vAg eSpot) r4 15 #[.agg #[.int .i64 e2.key.pfs, .int .i64 e2.key.obj, .int .i64 e2.key.off, .int .i64 e2.made, .int .i64 e2.gone, .string e2.val]] (by kernel_rfl) (fun _ => by kernel_rfl) (fun w' hh => elem_Spot_l e2 r4 hb6 w' ) ?_)
                  intro u V12 hV12 hu
                  obtain rfl := sureSpot _ _ _ hu
                  refine TI.all [2] (by kernel_rfl) rfl ⟨?_, trivial⟩
                  refine TI.br rfl (W1.toR (W1.look (.agg #[.int .i64 p1.key.pfs, .int .i64 p1.key.obj, .int .i64 p1.key.off, .int .i64 p1.made]) (by kernel_rfl) (fun w' hh => exec_loadN (cs := [.int .i64 p1.key.pfs, .int .i64 p1.key.obj, .int .i64 p1.key.off, .int .i64 p1.made]) rfl rfl (by kernel_rfl) (by kernel_rfl) (fun j u hj => (hh.box_at (i := 9) (cs := [.int .i64 p1.key.pfs, .int .i64 p1.key.obj, .int .i64 p1.key.off, .int .i64 p1.made]) (by rfl) 0 j).trans (seg_at (n := 4) (by rfl) hj))) ?_))
                  refine TI.all [3] (by kernel_rfl) rfl ⟨?_, trivial⟩
                  refine TI.br rfl (W1.toR (W1.look (.bool (r4 == p1)) (by kernel_rfl) (fun w' hh => exec_eql_DSpot r4 p1 w' rfl rfl rfl) ?_))
                  refine TI.done (by kernel_rfl) ?_
                  cases hX5
                  exact fun a w' hf hh => Exists.intro V12 (And.intro hV12 (And.intro (((((Fr.nil hf).pick hf 21 rfl).pick hf 7 rfl).pick hf 5 rfl).pick hf 4 rfl) (hh.sub (.cons_cons _ (.cons_cons _ (.cons_cons _ (.cons_cons _ (.cons_cons _ (.cons_cons _ (.cons_cons _ (.cons_cons _ (.cons_cons _ (.cons_cons _ (List.Sublist.refl _))))))))))))))
                 ·
                  refine TI.br rfl (W1.toR (W1.look (.agg #[.int .i64 p1.key.pfs, .int .i64 p1.key.obj, .int .i64 p1.key.off, .int .i64 p1.made]) (by kernel_rfl) (fun w' hh => exec_loadN (cs := [.int .i64 p1.key.pfs, .int .i64 p1.key.obj, .int .i64 p1.key.off, .int .i64 p1.made]) rfl rfl (by kernel_rfl) (by kernel_rfl) (fun j u hj => (hh.box_at (i := 9) (cs := [.int .i64 p1.key.pfs, .int .i64 p1.key.obj, .int .i64 p1.key.off, .int .i64 p1.made]) (by rfl) 0 j).trans (seg_at (n := 4) (by rfl) hj))) ?_))
                  refine TI.all [1] (by kernel_rfl) rfl ⟨?_, trivial⟩
                  obtain ⟨r4, hb6, hX5⟩ := Option.bind_eq_some_iff.1 hX5
                  refine TI.br rfl <| W1.toR (W1.call (vAg eSpot) r4 15 #[.agg #[.int .i64 e2.key.pfs, .int .i64 e2.key.obj, .int .i64 e2.key.off, .int .i64 e2.made, .int .i64 e2.gone, .string e2.val]] (by kernel_rfl) (fun _ => by kernel_rfl) (fun w' hh => elem_Spot_l e2 r4 hb6 w' ) ?_)
                  intro u V12 hV12 hu
                  obtain rfl := sureSpot _ _ _ hu
                  refine TI.all [3] (by kernel_rfl) rfl ⟨?_, trivial⟩
                  refine TI.br rfl (W1.toR (W1.look (.bool (r4 == p1)) (by kernel_rfl) (fun w' hh => exec_eql_DSpot r4 p1 w' rfl rfl rfl) ?_))
                  refine TI.done (by kernel_rfl) ?_
                  cases hX5
                  exact fun a w' hf hh => Exists.intro V12 (And.intro hV12 (And.intro (((((Fr.nil hf).pick hf 21 rfl).pick hf 7 rfl).pick hf 5 rfl).pick hf 4 rfl) (hh.sub (.cons_cons _ (.cons_cons _ (.cons_cons _ (.cons_cons _ (.cons_cons _ (.cons_cons _ (.cons_cons _ (.cons_cons _ (.cons_cons _ (.cons_cons _ (List.Sublist.refl _))))))))))))))
                ·
                 refine TI.br rfl (W1.toR (W1.look (.agg #[.int .i64 p1.key.pfs, .int .i64 p1.key.obj, .int .i64 p1.key.off, .int .i64 p1.made]) (by kernel_rfl) (fun w' hh => exec_loadN (cs := [.int .i64 p1.key.pfs, .int .i64 p1.key.obj, .int .i64 p1.key.off, .int .i64 p1.made]) rfl rfl (by kernel_rfl) (by kernel_rfl) (fun j u hj => (hh.box_at (i := 9) (cs := [.int .i64 p1.key.pfs, .int .i64 p1.key.obj, .int .i64 p1.key.off, .int .i64 p1.made]) (by rfl) 0 j).trans (seg_at (n := 4) (by rfl) hj))) ?_))
                 refine TI.all [0] (by kernel_rfl) rfl ⟨?_, trivial⟩
                 refine TI.br rfl (W1.toR (W1.look (.agg #[.int .i64 e2.key.pfs, .int .i64 e2.key.obj, .int .i64 e2.key.off, .int .i64 e2.made, .int .i64 e2.gone, .string e2.val]) (by kernel_rfl) (fun w' hh => exec_loadN (cs := [.int .i64 e2.key.pfs, .int .i64 e2.key.obj, .int .i64 e2.key.off, .int .i64 e2.made, .int .i64 e2.gone, .string e2.val]) rfl rfl (by kernel_rfl) (by kernel_rfl) (fun j u hj => (hh.box_at (i := 0) (cs := [.int .i64 e2.key.pfs, .int .i64 e2.key.obj, .int .i64 e2.key.off, .int .i64 e2.made, .int .i64 e2.gone, .string e2.val]) (by rfl) 0 j).trans (seg_at (n := 6) (by rfl) hj))) ?_))
                 refine TI.all [1] (by kernel_rfl) rfl ⟨?_, trivial⟩
                 obtain ⟨r4, hb6, hX5⟩ := Option.bind_eq_some_iff.1 hX5
                 refine TI.br rfl <| W1.toR (W1.call (vAg eSpot) r4 15 #[.agg #[.int .i64 e2.key.pfs, .int .i64 e2.key.obj, .int .i64 e2.key.off, .int .i64 e2.made, .int .i64 e2.gone, .string e2.val]] (by kernel_rfl) (fun _ => by kernel_rfl) (fun w' hh => elem_Spot_l e2 r4 hb6 w' ) ?_)
                 intro u V12 hV12 hu
                 obtain rfl := sureSpot _ _ _ hu
                 refine TI.all [3] (by kernel_rfl) rfl ⟨?_, trivial⟩
                 refine TI.br rfl (W1.toR (W1.look (.bool (r4 == p1)) (by kernel_rfl) (fun w' hh => exec_eql_DSpot r4 p1 w' rfl rfl rfl) ?_))
                 refine TI.done (by kernel_rfl) ?_
                 cases hX5
                 exact fun a w' hf hh => Exists.intro V12 (And.intro hV12 (And.intro (((((Fr.nil hf).pick hf 21 rfl).pick hf 7 rfl).pick hf 5 rfl).pick hf 4 rfl) (hh.sub (.cons_cons _ (.cons_cons _ (.cons_cons _ (.cons_cons _ (.cons_cons _ (.cons_cons _ (.cons_cons _ (.cons_cons _ (.cons_cons _ (.cons_cons _ (List.Sublist.refl _))))))))))))))
               ·
                rintro a w' ⟨V12, hV12, hf, hh⟩
                refine (?_ : T 24 w V12 ((box b11 39 [.int .i64 e2.key.pfs, .int .i64 e2.key.obj, .int .i64 e2.key.off, .int .i64 e2.made, .int .i64 e2.gone, .string e2.val]) :: (box b10 39 [.int .i64 e2.key.pfs, .int .i64 e2.key.obj, .int .i64 e2.key.off, .int .i64 e2.made, .int .i64 e2.gone, .string e2.val]) :: (box b9 57 [.int .i64 e1.kind, .slice A2 e1.elems.length c2, .slice A3 e1.kids.length c3, .slice A4 e1.seps.length c4, .slice A5 e1.tids.length c5]) :: (box b8 36 [.int .i64 p1.key.pfs, .int .i64 p1.key.obj, .int .i64 p1.key.off, .int .i64 p1.made]) :: (box b7 24 [.int .i64 p0.root, .slice A1 p0.nodes.length c1]) :: (busyo l1 lr1) :: (marko d1) :: (box b4 25 [.int .i64 0]) :: (box b3 39 [.int .i64 x8, .int .i64 x9, .int .i64 x10, .int .i64 x11, .int .i64 x12, .string x13]) :: (box b2 36 [.int .i64 p1.key.pfs, .int .i64 p1.key.obj, .int .i64 p1.key.off, .int .i64 p1.made]) :: G1) [(4, .pointer (some ⟨b3, 0, none⟩)), (5, .pointer (some ⟨b4, 0, none⟩)), (7, .pointer (some ⟨b11, 0, none⟩)), (21, .bool z37)] _) a w' hf hh
                clear hf hh
                refine T.cond z37 (by kernel_rfl) (by kernel_rfl) (fun hc4 => ?_) (fun hc4 => ?_)
                ·
                 rw [hc4, cond_true] at hX4
                 refine T.seq ?_
                 refine T.region ?_
                 refine T.look (.agg #[.int .i64 e2.key.pfs, .int .i64 e2.key.obj, .int .i64 e2.key.off, .int .i64 e2.made, .int .i64 e2.gone, .string e2.val]) (by kernel_rfl) (fun w' hh => exec_loadN (cs := [.int .i64 e2.key.pfs, .int .i64 e2.key.obj, .int .i64 e2.key.off, .int .i64 e2.made, .int .i64 e2.gone, .string e2.val]) rfl rfl (by kernel_rfl) (by kernel_rfl) (fun j u hj => (hh.box_at (i := 0) (cs := [.int .i64 e2.key.pfs, .int .i64 e2.key.obj, .int .i64 e2.key.off, .int .i64 e2.made, .int .i64 e2.gone, .string e2.val]) (by rfl) 0 j).trans (seg_at (n := 6) (by rfl) hj))) ?_
                 refine T.step (W1.store 8 [.int .i64 e2.key.pfs, .int .i64 e2.key.obj, .int .i64 e2.key.off, .int .i64 e2.made, .int .i64 e2.gone, .string e2.val] ((box b11 39 [.int .i64 e2.key.pfs, .int .i64 e2.key.obj, .int .i64 e2.key.off, .int .i64 e2.made, .int .i64 e2.gone, .string e2.val]) :: (box b10 39 [.int .i64 e2.key.pfs, .int .i64 e2.key.obj, .int .i64 e2.key.off, .int .i64 e2.made, .int .i64 e2.gone, .string e2.val]) :: (box b9 57 [.int .i64 e1.kind, .slice A2 e1.elems.length c2, .slice A3 e1.kids.length c3, .slice A4 e1.seps.length c4, .slice A5 e1.tids.length c5]) :: (box b8 36 [.int .i64 p1.key.pfs, .int .i64 p1.key.obj, .int .i64 p1.key.off, .int .i64 p1.made]) :: (box b7 24 [.int .i64 p0.root, .slice A1 p0.nodes.length c1]) :: (busyo l1 lr1) :: (marko d1) :: (box b4 25 [.int .i64 0]) :: (box b3 39 [.int .i64 e2.key.pfs, .int .i64 e2.key.obj, .int .i64 e2.key.off, .int .i64 e2.made, .int .i64 e2.gone, .string e2.val]) :: (box b2 36 [.int .i64 p1.key.pfs, .int .i64 p1.key.obj, .int .i64 p1.key.off, .int .i64 p1.made]) :: G1) (by rfl) rfl (by kernel_rfl) (fun w' hw => exec_store (vs := [.int .i64 e2.key.pfs, .int .i64 e2.key.obj, .int .i64 e2.key.off, .int .i64 e2.made, .int .i64 e2.gone, .string e2.val]) rfl rfl rfl rfl (by kernel_rfl) (one_of rfl) (by simp) rfl hw) ?_)
                 refine T.step (W1.store 7 [.int .i64 0] ((box b11 39 [.int .i64 e2.key.pfs, .int .i64 e2.key.obj, .int .i64 e2.key.off, .int .i64 e2.made, .int .i64 e2.gone, .string e2.val]) :: (box b10 39 [.int .i64 e2.key.pfs, .int .i64 e2.key.obj, .int .i64 e2.key.off, .int .i64 e2.made, .int .i64 e2.gone, .string e2.val]) :: (box b9 57 [.int .i64 e1.kind, .slice A2 e1.elems.length c2, .slice A3 e1.kids.length c3, .slice A4 e1.seps.length c4, .slice A5 e1.tids.length c5]) :: (box b8 36 [.int .i64 p1.key.pfs, .int .i64 p1.key.obj, .int .i64 p1.key.off, .int .i64 p1.made]) :: (box b7 24 [.int .i64 p0.root, .slice A1 p0.nodes.length c1]) :: (busyo l1 lr1) :: (marko d1) :: (box b4 25 [.int .i64 0]) :: (box b3 39 [.int .i64 e2.key.pfs, .int .i64 e2.key.obj, .int .i64 e2.key.off, .int .i64 e2.made, .int .i64 e2.gone, .string e2.val]) :: (box b2 36 [.int .i64 p1.key.pfs, .int .i64 p1.key.obj, .int .i64 p1.key.off, .int .i64 p1.made]) :: G1) (by rfl) rfl (by kernel_rfl) (fun w' hw => exec_store (vs := [.int .i64 0]) rfl rfl rfl rfl (by kernel_rfl) (one_of rfl) (by simp) rfl hw) ?_)
                 refine T.nil ?_
                 cases hX4
                 refine T.ret rfl ?_
                 repeat first | refine T.unthenR ?_ | refine T.unblockR ?_
                 exact T.roundRet .ret [(.exit 0)] 0 5 ((box b11 39 [.int .i64 e2.key.pfs, .int .i64 e2.key.obj, .int .i64 e2.key.off, .int .i64 e2.made, .int .i64 e2.gone, .string e2.val]) :: (box b10 39 [.int .i64 e2.key.pfs, .int .i64 e2.key.obj, .int .i64 e2.key.off, .int .i64 e2.made, .int .i64 e2.gone, .string e2.val]) :: (box b9 57 [.int .i64 e1.kind, .slice A2 e1.elems.length c2, .slice A3 e1.kids.length c3, .slice A4 e1.seps.length c4, .slice A5 e1.tids.length c5]) :: (box b8 36 [.int .i64 p1.key.pfs, .int .i64 p1.key.obj, .int .i64 p1.key.off, .int .i64 p1.made]) :: (box b7 24 [.int .i64 p0.root, .slice A1 p0.nodes.length c1]) :: (loopo l1 lr1 .ret [(.exit 0)] (0 + 1)) :: (marko d1) :: (box b4 25 [.int .i64 0]) :: (box b3 39 [.int .i64 e2.key.pfs, .int .i64 e2.key.obj, .int .i64 e2.key.off, .int .i64 e2.made, .int .i64 e2.gone, .string e2.val]) :: (box b2 36 [.int .i64 p1.key.pfs, .int .i64 p1.key.obj, .int .i64 p1.key.off, .int .i64 p1.made]) :: G1) (by rfl) rfl rfl (fun w' hh => ⟨_, rfl, Exists.intro 0 (Exists.intro e2.key.pfs (Exists.intro e2.key.obj (Exists.intro e2.key.off (Exists.intro e2.made (Exists.intro e2.gone (Exists.intro e2.val (And.intro rfl (Exists.intro V12 (And.intro hV12 (And.intro rfl (hh.sub (.cons _ (.cons_cons _ (.cons_cons _ (.cons_cons _ (.cons_cons _ (.cons_cons _ (.cons_cons _ (.cons_cons _ (.cons_cons _ (.cons_cons _ (List.Sublist.refl _))))))))))))))))))))))⟩)
                ·
                 rw [hc4, cond_false] at hX4
                 refine T.skip_code ?_
                 refine T.exit ?_
                 cases hX4
                 repeat first | refine T.unthenX ?_ | refine T.unblockX rfl ?_
                 exact T.roundExit .ret [(.exit 0)] 1 5 ((box b11 39 [.int .i64 e2.key.pfs, .int .i64 e2.key.obj, .int .i64 e2.key.off, .int .i64 e2.made, .int .i64 e2.gone, .string e2.val]) :: (box b10 39 [.int .i64 e2.key.pfs, .int .i64 e2.key.obj, .int .i64 e2.key.off, .int .i64 e2.made, .int .i64 e2.gone, .string e2.val]) :: (box b9 57 [.int .i64 e1.kind, .slice A2 e1.elems.length c2, .slice A3 e1.kids.length c3, .slice A4 e1.seps.length c4, .slice A5 e1.tids.length c5]) :: (box b8 36 [.int .i64 p1.key.pfs, .int .i64 p1.key.obj, .int .i64 p1.key.off, .int .i64 p1.made]) :: (box b7 24 [.int .i64 p0.root, .slice A1 p0.nodes.length c1]) :: (loopo l1 lr1 .ret [(.exit 0)] (1 + 1)) :: (marko d1) :: (box b4 25 [.int .i64 0]) :: (box b3 39 [.int .i64 x8, .int .i64 x9, .int .i64 x10, .int .i64 x11, .int .i64 x12, .string x13]) :: (box b2 36 [.int .i64 p1.key.pfs, .int .i64 p1.key.obj, .int .i64 p1.key.off, .int .i64 p1.made]) :: G1) (by rfl) rfl rfl (fun w' hh => ⟨_, rfl, Exists.intro 1 (Exists.intro x8 (Exists.intro x9 (Exists.intro x10 (Exists.intro x11 (Exists.intro x12 (Exists.intro x13 (And.intro rfl (Exists.intro V12 (And.intro hV12 (And.intro rfl (hh.sub (.cons _ (.cons_cons _ (.cons_cons _ (.cons_cons _ (.cons_cons _ (.cons_cons _ (.cons_cons _ (.cons_cons _ (.cons_cons _ (.cons_cons _ (List.Sublist.refl _))))))))))))))))))))))⟩)
              ·
               rintro v w' ⟨k4, z31, z32, z33, z34, z35, z36, rfl, V11, hV11, rfl, hh⟩
               try dsimp only at hX3
               refine ⟨V11, ((box b10 39 [.int .i64 e2.key.pfs, .int .i64 e2.key.obj, .int .i64 e2.key.off, .int .i64 e2.made, .int .i64 e2.gone, .string e2.val]) :: (box b9 57 [.int .i64 e1.kind, .slice A2 e1.elems.length c2, .slice A3 e1.kids.length c3, .slice A4 e1.seps.length c4, .slice A5 e1.tids.length c5]) :: (box b8 36 [.int .i64 p1.key.pfs, .int .i64 p1.key.obj, .int .i64 p1.key.off, .int .i64 p1.made]) :: (box b7 24 [.int .i64 p0.root, .slice A1 p0.nodes.length c1]) :: (loopo l1 lr1 .ret [(.exit 0)] (k4 + 1)) :: (marko d1) :: (box b4 25 [.int .i64 0]) :: (box b3 39 [.int .i64 z31, .int .i64 z32, .int .i64 z33, .int .i64 z34, .int .i64 z35, .string z36]) :: (box b2 36 [.int .i64 p1.key.pfs, .int .i64 p1.key.obj, .int .i64 p1.key.off, .int .i64 p1.made]) :: G1), hh, ?_⟩
               clear hh
               refine TI.all [9] (by kernel_rfl) rfl ⟨?_, trivial⟩
               refine TI.br rfl (W1.toR (W1.look (.bool true) (by kernel_rfl) (fun _ _ => by kernel_rfl) ?_))
               refine TI.all [10] (by kernel_rfl) rfl ⟨?_, trivial⟩
               refine TI.br rfl (W1.toR (W1.look (.bool true) (by kernel_rfl) (fun _ _ => by kernel_rfl) ?_))
               refine TI.done (by kernel_rfl) ?_
               cases hX3
               exact fun a w' hf hh => Exists.intro (k4 + 1) (Exists.intro z31 (Exists.intro z32 (Exists.intro z33 (Exists.intro z34 (Exists.intro z35 (Exists.intro z36 (And.intro rfl (Exists.intro V11 (And.intro (View.le_trans (View.le_trans hV9 hV10) hV11) (And.intro (((((((((Fr.nil hf).pick hf 36 rfl).pick hf 22 rfl).pick hf 21 rfl).pick hf 20 rfl).pick hf 9 rfl).pick hf 6 rfl).pick hf 4 rfl).pick hf 3 rfl) (hh.sub (.cons _ (.cons_cons _ (.cons_cons _ (.cons_cons _ (.cons_cons _ (.cons_cons _ (.cons_cons _ (.cons_cons _ (.cons_cons _ (List.Sublist.refl _)))))))))))))))))))))
          ·
           refine TI.br rfl (W1.toR (W1.look (.agg #[.int .i64 p1.key.pfs, .int .i64 p1.key.obj, .int .i64 p1.key.off, .int .i64 p1.made]) (by kernel_rfl) (fun w' hh => exec_loadN (cs := [.int .i64 p1.key.pfs, .int .i64 p1.key.obj, .int .i64 p1.key.off, .int .i64 p1.made]) rfl rfl (by kernel_rfl) (by kernel_rfl) (fun j u hj => (hh.box_at (i := 2) (cs := [.int .i64 p1.key.pfs, .int .i64 p1.key.obj, .int .i64 p1.key.off, .int .i64 p1.made]) (by rfl) 0 j).trans (seg_at (n := 4) (by rfl) hj))) ?_))
           refine TI.all [0] (by kernel_rfl) rfl ⟨?_, trivial⟩
           refine TI.br rfl (W1.toR (W1.look (.agg #[.int .i64 e2.key.pfs, .int .i64 e2.key.obj, .int .i64 e2.key.off, .int .i64 e2.made, .int .i64 e2.gone, .string e2.val]) (by kernel_rfl) (fun w' hh => exec_loadN (cs := [.int .i64 e2.key.pfs, .int .i64 e2.key.obj, .int .i64 e2.key.off, .int .i64 e2.made, .int .i64 e2.gone, .string e2.val]) rfl rfl (by kernel_rfl) (by kernel_rfl) (fun j u hj => (hh.box_at (i := 0) (cs := [.int .i64 e2.key.pfs, .int .i64 e2.key.obj, .int .i64 e2.key.off, .int .i64 e2.made, .int .i64 e2.gone, .string e2.val]) (by rfl) 0 j).trans (seg_at (n := 6) (by rfl) hj))) ?_))
           refine TI.all [1] (by kernel_rfl) rfl ⟨?_, trivial⟩
           obtain ⟨r2, hb4, hX3⟩ := Option.bind_eq_some_iff.1 hX3
           refine TI.br rfl <| W1.toR (W1.call (vAg eSpot) r2 15 #[.agg #[.int .i64 e2.key.pfs, .int .i64 e2.key.obj, .int .i64 e2.key.off, .int .i64 e2.made, .int .i64 e2.gone, .string e2.val]] (by kernel_rfl) (fun _ => by kernel_rfl) (fun w' hh => elem_Spot_l e2 r2 hb4 w' ) ?_)
           intro u V9 hV9 hu
           obtain rfl := sureSpot _ _ _ hu
           refine TI.all [3] (by kernel_rfl) rfl ⟨?_, trivial⟩
           obtain ⟨r3, hb5, hX3⟩ := Option.bind_eq_some_iff.1 hX3
           refine TI.br rfl <| W1.toR (W1.call (vSc eInt) r3 14 #[.agg #[.int .i64 r2.key.pfs, .int .i64 r2.key.obj, .int .i64 r2.key.off, .int .i64 r2.made], .agg #[.int .i64 p1.key.pfs, .int .i64 p1.key.obj, .int .i64 p1.key.off, .int .i64 p1.made]] (by kernel_rfl) (fun _ => by kernel_rfl) (fun w' hh => key_CmpSpot_l r2 p1 r3 hb5 w' ) ?_)
           intro u V10 hV10 hu
           obtain rfl := sureInt _ _ _ hu
           refine TI.all [4] (by kernel_rfl) rfl ⟨?_, trivial⟩
           refine TI.br rfl (W1.toR (W1.look (.bool (decide ((0 : Int) ≤ r3))) (by kernel_rfl) (fun _ _ => by kernel_rfl) ?_))
           refine TI.all [5] (by kernel_rfl) rfl ⟨?_, trivial⟩
           refine TI.br rfl (W1.toR (W1.look (.bool (decide ((0 : Int) ≤ r3))) (by kernel_rfl) (fun _ _ => by kernel_rfl) ?_))
           cases hg1 : decide ((0 : Int) ≤ r3)
           ·
            rw [hg1, cond_false] at hX3
            refine TI.all [6, 7] (by kernel_rfl) rfl ⟨?_, ?_, trivial⟩
            ·
             refine TI.no rfl (by kernel_rfl) (by kernel_rfl) ?_
             refine TI.all [7] (by kernel_rfl) rfl ⟨?_, trivial⟩
             refine TI.no rfl (by kernel_rfl) (by kernel_rfl) ?_
             refine TI.all [8] (by kernel_rfl) rfl ⟨?_, trivial⟩
             refine TI.no rfl (by kernel_rfl) (by kernel_rfl) ?_
             refine TI.all [9] (by kernel_rfl) rfl ⟨?_, trivial⟩
             refine TI.no rfl (by kernel_rfl) (by kernel_rfl) ?_
             refine TI.all [10] (by kernel_rfl) rfl ⟨?_, trivial⟩
             refine TI.br rfl (W1.toR (W1.look (.bool false) (by kernel_rfl) (fun _ _ => by kernel_rfl) ?_))
             refine TI.done (by kernel_rfl) ?_
             cases hX3
             exact fun a w' hf hh => Exists.intro 0 (Exists.intro x8 (Exists.intro x9 (Exists.intro x10 (Exists.intro x11 (Exists.intro x12 (Exists.intro x13 (And.intro rfl (Exists.intro V10 (And.intro (View.le_trans hV9 hV10) (And.intro (((((((((Fr.nil hf).pick hf 36 rfl).pick hf 22 rfl).pick hf 21 rfl).pick hf 20 rfl).pick hf 9 rfl).pick hf 6 rfl).pick hf 4 rfl).pick hf 3 rfl) (hh.sub (.cons _ (.cons_cons _ (.cons_cons _ (.cons_cons _ (.cons_cons _ (.cons_cons _ (.cons_cons _ (.cons_cons _ (.cons_cons _ (List.Sublist.refl _)))))))))))))))))))))
            ·
             refine TI.no rfl (by kernel_rfl) (by kernel_rfl) ?_
             refine TI.all [6] (by kernel_rfl) rfl ⟨?_, trivial⟩
             refine TI.no rfl (by kernel_rfl) (by kernel_rfl) ?_
             refine TI.all [8] (by kernel_rfl) rfl ⟨?_, trivial⟩
             refine TI.no rfl (by kernel_rfl) (by kernel_rfl) ?_
             refine TI.all [9] (by kernel_rfl) rfl ⟨?_, trivial⟩
             refine TI.no rfl (by kernel_rfl) (by kernel_rfl) ?_
             refine TI.all [10] (by kernel_rfl) rfl ⟨?_, trivial⟩
             refine TI.br rfl (W1.toR (W1.look (.bool false) (by kernel_rfl) (fun _ _ => by kernel_rfl) ?_))
             refine TI.done (by kernel_rfl) ?_
             cases hX3
             exact fun a w' hf hh => Exists.intro 0 (Exists.intro x8 (Exists.intro x9 (Exists.intro x10 (Exists.intro x11 (Exists.intro x12 (Exists.intro x13 (And.intro rfl (Exists.intro V10 (And.intro (View.le_trans hV9 hV10) (And.intro (((((((((Fr.nil hf).pick hf 36 rfl).pick hf 22 rfl).pick hf 21 rfl).pick hf 20 rfl).pick hf 9 rfl).pick hf 6 rfl).pick hf 4 rfl).pick hf 3 rfl) (hh.sub (.cons _ (.cons_cons _ (.cons_cons _ (.cons_cons _ (.cons_cons _ (.cons_cons _ (.cons_cons _ (.cons_cons _ (.cons_cons _ (List.Sublist.refl _)))))))))))))))))))))
           ·
            rw [hg1, cond_true] at hX3
            refine TI.all [6, 7] (by kernel_rfl) rfl ⟨?_, ?_, trivial⟩
            ·
             refine TI.br rfl (W1.toR (W1.look (.func (.yield l1) #[] #[]) (by kernel_rfl) (fun _ _ => by kernel_rfl) ?_))
             refine TI.all [7] (by kernel_rfl) rfl ⟨?_, trivial⟩
             refine TI.br rfl (W1.toR (W1.look (.agg #[.int .i64 e2.key.pfs, .int .i64 e2.key.obj, .int .i64 e2.key.off, .int .i64 e2.made, .int .i64 e2.gone, .string e2.val]) (by kernel_rfl) (fun w' hh => exec_loadN (cs := [.int .i64 e2.key.pfs, .int .i64 e2.key.obj, .int .i64 e2.key.off, .int .i64 e2.made, .int .i64 e2.gone, .string e2.val]) rfl rfl (by kernel_rfl) (by kernel_rfl) (fun j u hj => (hh.box_at (i := 0) (cs := [.int .i64 e2.key.pfs, .int .i64 e2.key.obj, .int .i64 e2.key.off, .int .i64 e2.made, .int .i64 e2.gone, .string e2.val]) (by rfl) 0 j).trans (seg_at (n := 6) (by rfl) hj))) ?_))
             refine TI.all [8] (by kernel_rfl) rfl ⟨?_, trivial⟩
             obtain ⟨q6, hX4, hX3⟩ := Option.bind_eq_some_iff.1 hX3
             refine TI.br rfl (W1R.yield 4 l1 (fun v w' => ∃ (k4 : Nat) (z31 : Int) (z32 : Int) (z33 : Int) (z34 : Int) (z35 : Int) (z36 : ByteArray), q6 = (k4, z31, z32, z33, z34, z35, z36) ∧ ∃ (V11 : View), View.le V10 V11 ∧ v = .bool false ∧ Hp w V11 ((box b10 39 [.int .i64 e2.key.pfs, .int .i64 e2.key.obj, .int .i64 e2.key.off, .int .i64 e2.made, .int .i64 e2.gone, .string e2.val]) :: (box b9 57 [.int .i64 e1.kind, .slice A2 e1.elems.length c2, .slice A3 e1.kids.length c3, .slice A4 e1.seps.length c4, .slice A5 e1.tids.length c5]) :: (box b8 36 [.int .i64 p1.key.pfs, .int .i64 p1.key.obj, .int .i64 p1.key.off, .int .i64 p1.made]) :: (box b7 24 [.int .i64 p0.root, .slice A1 p0.nodes.length c1]) :: (loopo l1 lr1 .ret [(.exit 0)] (k4 + 1)) :: (marko d1) :: (box b4 25 [.int .i64 0]) :: (box b3 39 [.int .i64 z31, .int .i64 z32, .int .i64 z33, .int .i64 z34, .int .i64 z35, .string z36]) :: (box b2 36 [.int .i64 p1.key.pfs, .int .i64 p1.key.obj, .int .i64 p1.key.off, .int .i64 p1.made]) :: G1) w') (by rfl) hl1 hl2 hl3 hl4 (by rfl) (by kernel_rfl) rfl (by kernel_rfl) rfl ?_ ?_)
             ·
              refine T.region ?_
              refine T.step (W1.new 39 [.int .i64 0, .int .i64 0, .int .i64 0, .int .i64 0, .int .i64 0, .string (ByteArray.mk #[])] (fun b => .pointer (some ⟨b, 0, none⟩)) (by kernel_rfl) (fun _ => by kernel_rfl) (fun b11 => ?_))
              refine T.step (W1.store 0 [.int .i64 e2.key.pfs, .int .i64 e2.key.obj, .int .i64 e2.key.off, .int .i64 e2.made, .int .i64 e2.gone, .string e2.val] ((box b11 39 [.int .i64 e2.key.pfs, .int .i64 e2.key.obj, .int .i64 e2.key.off, .int .i64 e2.made, .int .i64 e2.gone, .string e2.val]) :: (box b10 39 [.int .i64 e2.key.pfs, .int .i64 e2.key.obj, .int .i64 e2.key.off, .int .i64 e2.made, .int .i64 e2.gone, .string e2.val]) :: (box b9 57 [.int .i64 e1.kind, .slice A2 e1.elems.length c2, .slice A3 e1.kids.length c3, .slice A4 e1.seps.length c4, .slice A5 e1.tids.length c5]) :: (box b8 36 [.int .i64 p1.key.pfs, .int .i64 p1.key.obj, .int .i64 p1.key.off, .int .i64 p1.made]) :: (box b7 24 [.int .i64 p0.root, .slice A1 p0.nodes.length c1]) :: (loopo l1 lr1 .ret [(.exit 0)] 0) :: (marko d1) :: (box b4 25 [.int .i64 0]) :: (box b3 39 [.int .i64 x8, .int .i64 x9, .int .i64 x10, .int .i64 x11, .int .i64 x12, .string x13]) :: (box b2 36 [.int .i64 p1.key.pfs, .int .i64 p1.key.obj, .int .i64 p1.key.off, .int .i64 p1.made]) :: G1) (by rfl) rfl (by kernel_rfl) (fun w' hw => exec_store (vs := [.int .i64 e2.key.pfs, .int .i64 e2.key.obj, .int .i64 e2.key.off, .int .i64 e2.made, .int .i64 e2.gone, .string e2.val]) rfl rfl rfl rfl (by kernel_rfl) (one_of rfl) (by simp) rfl hw) ?_)
              refine T.nil ?_
              refine T.unthenN ?_
              refine T.begin 5 ((box b11 39 [.int .i64 e2.key.pfs, .int .i64 e2.key.obj, .int .i64 e2.key.off, .int .i64 e2.made, .int .i64 e2.gone, .string e2.val]) :: (box b10 39 [.int .i64 e2.key.pfs, .int .i64 e2.key.obj, .int .i64 e2.key.off, .int .i64 e2.made, .int .i64 e2.gone, .string e2.val]) :: (box b9 57 [.int .i64 e1.kind, .slice A2 e1.elems.length c2, .slice A3 e1.kids.length c3, .slice A4 e1.seps.length c4, .slice A5 e1.tids.length c5]) :: (box b8 36 [.int .i64 p1.key.pfs, .int .i64 p1.key.obj, .int .i64 p1.key.off, .int .i64 p1.made]) :: (box b7 24 [.int .i64 p0.root, .slice A1 p0.nodes.length c1]) :: (busyo l1 lr1) :: (marko d1) :: (box b4 25 [.int .i64 0]) :: (box b3 39 [.int .i64 x8, .int .i64 x9, .int .i64 x10, .int .i64 x11, .int .i64 x12, .string x13]) :: (box b2 36 [.int .i64 p1.key.pfs, .int .i64 p1.key.obj, .int .i64 p1.key.off, .int .i64 p1.made]) :: G1) (by rfl) rfl ?_
              refine T.block ?_
              refine T.seq ?_
              obtain ⟨z37, hX5, hX4⟩ := Option.bind_eq_some_iff.1 hX4
              refine T.cut (fun a w' => ∃ (V12 : View), View.le V10 V12 ∧ Fr 24 [(4, .pointer (some ⟨b3, 0, none⟩)), (5, .pointer (some ⟨b4, 0, none⟩)), (7, .pointer (some ⟨b11, 0, none⟩)), (21, .bool z37)] a ∧ Hp w V12 ((box b11 39 [.int .i64 e2.key.pfs, .int .i64 e2.key.obj, .int .i64 e2.key.off, .int .i64 e2.made, .int .i64 e2.gone, .string e2.val]) :: (box b10 39 [.int .i64 e2.key.pfs, .int .i64 e2.key.obj, .int .i64 e2.key.off, .int .i64 e2.made, .int .i64 e2.gone, .string e2.val]) :: (box b9 57 [.int .i64 e1.kind, .slice A2 e1.elems.length c2, .slice A3 e1.kids.length c3, .slice A4 e1.seps.length c4, .slice A5 e1.tids.length c5]) :: (box b8 36 [.int .i64 p1.key.pfs, .int .i64 p1.key.obj, .int .i64 p1.key.off, .int .i64 p1.made]) :: (box b7 24 [.int .i64 p0.root, .slice A1 p0.nodes.length c1]) :: (busyo l1 lr1) :: (marko d1) :: (box b4 25 [.int .i64 0]) :: (box b3 39 [.int .i64 x8, .int .i64 x9, .int .i64 x10, .int .i64 x11, .int .i64 x12, .string x13]) :: (box b2 36 [.int .i64 p1.key.pfs, .int .i64 p1.key.obj, .int .i64 p1.key.off, .int .i64 p1.made]) :: G1) w') ?_ ?_
              ·
               refine T.anyI (by kernel_rfl) ?_
               refine TI.all [0, 2] (by kernel_rfl) rfl ⟨?_, ?_, trivial⟩
               ·
                refine TI.br rfl (W1.toR (W1.look (.agg #[.int .i64 e2.key.pfs, .int .i64 e2.key.obj, .int .i64 e2.key.off, .int .i64 e2.made, .int .i64 e2.gone, .string e2.val]) (by kernel_rfl) (fun w' hh => exec_loadN (cs := [.int .i64 e2.key.pfs, .int .i64 e2.key.obj, .int .i64 e2.key.off, .int .i64 e2.made, .int .i64 e2.gone, .string e2.val]) rfl rfl (by kernel_rfl) (by kernel_rfl) (fun j u hj => (hh.box_at (i := 0) (cs := [.int .i64 e2.key.pfs, .int .i64 e2.key.obj, .int .i64 e2.key.off, .int .i64 e2.made, .int .i64 e2.gone, .string e2.val]) (by rfl) 0 j).trans (seg_at (n := 6) (by rfl) hj))) ?_))
                refine TI.all [1, 2] (by kernel_rfl) rfl ⟨?_, ?_, trivial⟩
                ·
                 obtain ⟨r4, hb6, hX5⟩ := Option.bind_eq_some_iff.1 hX5
                 refine TI.br rfl <| W1.toR (W1.call (vAg eSpot) r4 15 #[.agg #[.int .i64 e2.key.pfs, .int .i64 e2.key.obj, .int .i64 e2.key.off, .int .i64 e2.made, .int .i64 e2.gone, .string e2.val]] (by kernel_rfl) (fun _ => by kernel_rfl) (fun w' hh => elem_Spot_l e2 r4 hb6 w' ) ?_)
                 intro u V12 hV12 hu
                 obtain rfl := sureSpot _ _ _ hu
                 refine TI.all [2] (by kernel_rfl) rfl ⟨?_, trivial⟩
                 refine TI.br rfl (W1.toR (W1.look (.agg #[.int .i64 p1.key.pfs, .int .i64 p1.key.obj, .int .i64 p1.key.off, .int .i64 p1.made]) (by kernel_rfl) (fun w' hh => exec_loadN (cs := [.int .i64 p1.key.pfs, .int .i64 p1.key.obj, .int .i64 p1.key.off, .int .i64 p1.made]) rfl rfl (by kernel_rfl) (by kernel_rfl) (fun j u hj => (hh.box_at (i := 9) (cs := [.int .i64 p1.key.pfs, .int .i64 p1.key.obj, .int .i64 p1.key.off, .int .i64 p1.made]) (by rfl) 0 j).trans (seg_at (n := 4) (by rfl) hj))) ?_))
                 refine TI.all [3] (by kernel_rfl) rfl ⟨?_, trivial⟩
                 refine TI.br rfl (W1.toR (W1.look (.bool (r4 == p1)) (by kernel_rfl) (fun w' hh => exec_eql_DSpot r4 p1 w' rfl rfl rfl) ?_))
                 refine TI.done (by kernel_rfl) ?_
                 cases hX5
                 exact fun a w' hf hh => Exists.intro V12 (And.intro hV12 (And.intro (((((Fr.nil hf).pick hf 21 rfl).pick hf 7 rfl).pick hf 5 rfl).pick hf 4 rfl) (hh.sub (.cons_cons _ (.cons_cons _ (.cons_cons _ (.cons_cons _ (.cons_cons _ (.cons_cons _ (.cons_cons _ (.cons_cons _ (.cons_cons _ (.cons_cons _ (List.Sublist.refl _))))))))))))))
                ·
                 refine TI.br rfl (W1.toR (W1.look (.agg #[.int .i64 p1.key.pfs, .int .i64 p1.key.obj, .int .i64 p1.key.off, .int .i64 p1.made]) (by kernel_rfl) (fun w' hh => exec_loadN (cs := [.int .i64 p1.key.pfs, .int .i64 p1.key.obj, .int .i64 p1.key.off, .int .i64 p1.made]) rfl rfl (by kernel_rfl) (by kernel_rfl) (fun j u hj => (hh.box_at (i := 9) (cs := [.int .i64 p1.key.pfs, .int .i64 p1.key.obj, .int .i64 p1.key.off, .int .i64 p1.made]) (by rfl) 0 j).trans (seg_at (n := 4) (by rfl) hj))) ?_))
                 refine TI.all [1] (by kernel_rfl) rfl ⟨?_, trivial⟩
                 obtain ⟨r4, hb6, hX5⟩ := Option.bind_eq_some_iff.1 hX5
                 refine TI.br rfl <| W1.toR (W1.call (vAg eSpot) r4 15 #[.agg #[.int .i64 e2.key.pfs, .int .i64 e2.key.obj, .int .i64 e2.key.off, .int .i64 e2.made, .int .i64 e2.gone, .string e2.val]] (by kernel_rfl) (fun _ => by kernel_rfl) (fun w' hh => elem_Spot_l e2 r4 hb6 w' ) ?_)
                 intro u V12 hV12 hu
                 obtain rfl := sureSpot _ _ _ hu
                 refine TI.all [3] (by kernel_rfl) rfl ⟨?_, trivial⟩
                 refine TI.br rfl (W1.toR (W1.look (.bool (r4 == p1)) (by kernel_rfl) (fun w' hh => exec_eql_DSpot r4 p1 w' rfl rfl rfl) ?_))
                 refine TI.done (by kernel_rfl) ?_
                 cases hX5
                 exact fun a w' hf hh => Exists.intro V12 (And.intro hV12 (And.intro (((((Fr.nil hf).pick hf 21 rfl).pick hf 7 rfl).pick hf 5 rfl).pick hf 4 rfl) (hh.sub (.cons_cons _ (.cons_cons _ (.cons_cons _ (.cons_cons _ (.cons_cons _ (.cons_cons _ (.cons_cons _ (.cons_cons _ (.cons_cons _ (.cons_cons _ (List.Sublist.refl _))))))))))))))
               ·
                refine TI.br rfl (W1.toR (W1.look (.agg #[.int .i64 p1.key.pfs, .int .i64 p1.key.obj, .int .i64 p1.key.off, .int .i64 p1.made]) (by kernel_rfl) (fun w' hh => exec_loadN (cs := [.int .i64 p1.key.pfs, .int .i64 p1.key.obj, .int .i64 p1.key.off, .int .i64 p1.made]) rfl rfl (by kernel_rfl) (by kernel_rfl) (fun j u hj => (hh.box_at (i := 9) (cs := [.int .i64 p1.key.pfs, .int .i64 p1.key.obj, .int .i64 p1.key.off, .int .i64 p1.made]) (by rfl) 0 j).trans (seg_at (n := 4) (by rfl) hj))) ?_))
                refine TI.all [0] (by kernel_rfl) rfl ⟨?_, trivial⟩
                refine TI.br rfl (W1.toR (W1.look (.agg #[.int .i64 e2.key.pfs, .int .i64 e2.key.obj, .int .i64 e2.key.off, .int .i64 e2.made, .int .i64 e2.gone, .string e2.val]) (by kernel_rfl) (fun w' hh => exec_loadN (cs := [.int .i64 e2.key.pfs, .int .i64 e2.key.obj, .int .i64 e2.key.off, .int .i64 e2.made, .int .i64 e2.gone, .string e2.val]) rfl rfl (by kernel_rfl) (by kernel_rfl) (fun j u hj => (hh.box_at (i := 0) (cs := [.int .i64 e2.key.pfs, .int .i64 e2.key.obj, .int .i64 e2.key.off, .int .i64 e2.made, .int .i64 e2.gone, .string e2.val]) (by rfl) 0 j).trans (seg_at (n := 6) (by rfl) hj))) ?_))
                refine TI.all [1] (by kernel_rfl) rfl ⟨?_, trivial⟩
                obtain ⟨r4, hb6, hX5⟩ := Option.bind_eq_some_iff.1 hX5
                refine TI.br rfl <| W1.toR (W1.call (vAg eSpot) r4 15 #[.agg #[.int .i64 e2.key.pfs, .int .i64 e2.key.obj, .int .i64 e2.key.off, .int .i64 e2.made, .int .i64 e2.gone, .string e2.val]] (by kernel_rfl) (fun _ => by kernel_rfl) (fun w' hh => elem_Spot_l e2 r4 hb6 w' ) ?_)
                intro u V12 hV12 hu
                obtain rfl := sureSpot _ _ _ hu
                refine TI.all [3] (by kernel_rfl) rfl ⟨?_, trivial⟩
                refine TI.br rfl (W1.toR (W1.look (.bool (r4 == p1)) (by kernel_rfl) (fun w' hh => exec_eql_DSpot r4 p1 w' rfl rfl rfl) ?_))
                refine TI.done (by kernel_rfl) ?_
                cases hX5
                exact fun a w' hf hh => Exists.intro V12 (And.intro hV12 (And.intro (((((Fr.nil hf).pick hf 21 rfl).pick hf 7 rfl).pick hf 5 rfl).pick hf 4 rfl) (hh.sub (.cons_cons _ (.cons_cons _ (.cons_cons _ (.cons_cons _ (.cons_cons _ (.cons_cons _ (.cons_cons _ (.cons_cons _ (.cons_cons _ (.cons_cons _ (List.Sublist.refl _))))))))))))))
              ·
               rintro a w' ⟨V12, hV12, hf, hh⟩
               refine (?_ : T 24 w V12 ((box b11 39 [.int .i64 e2.key.pfs, .int .i64 e2.key.obj, .int .i64 e2.key.off, .int .i64 e2.made, .int .i64 e2.gone, .string e2.val]) :: (box b10 39 [.int .i64 e2.key.pfs, .int .i64 e2.key.obj, .int .i64 e2.key.off, .int .i64 e2.made, .int .i64 e2.gone, .string e2.val]) :: (box b9 57 [.int .i64 e1.kind, .slice A2 e1.elems.length c2, .slice A3 e1.kids.length c3, .slice A4 e1.seps.length c4, .slice A5 e1.tids.length c5]) :: (box b8 36 [.int .i64 p1.key.pfs, .int .i64 p1.key.obj, .int .i64 p1.key.off, .int .i64 p1.made]) :: (box b7 24 [.int .i64 p0.root, .slice A1 p0.nodes.length c1]) :: (busyo l1 lr1) :: (marko d1) :: (box b4 25 [.int .i64 0]) :: (box b3 39 [.int .i64 x8, .int .i64 x9, .int .i64 x10, .int .i64 x11, .int .i64 x12, .string x13]) :: (box b2 36 [.int .i64 p1.key.pfs, .int .i64 p1.key.obj, .int .i64 p1.key.off, .int .i64 p1.made]) :: G1) [(4, .pointer (some ⟨b3, 0, none⟩)), (5, .pointer (some ⟨b4, 0, none⟩)), (7, .pointer (some ⟨b11, 0, none⟩)), (21, .bool z37)] _) a w' hf hh
               clear hf hh
               refine T.cond z37 (by kernel_rfl) (by kernel_rfl) (fun hc4 => ?_) (fun hc4 => ?_)
               ·
                rw [hc4, cond_true] at hX4
                refine T.seq ?_
                refine T.region ?_
                refine T.look (.agg #[.int .i64 e2.key.pfs, .int .i64 e2.key.obj, .int .i64 e2.key.off, .int .i64 e2.made, .int .i64 e2.gone, .string e2.val]) (by kernel_rfl) (fun w' hh => exec_loadN (cs := [.int .i64 e2.key.pfs, .int .i64 e2.key.obj, .int .i64 e2.key.off, .int .i64 e2.made, .int .i64 e2.gone, .string e2.val]) rfl rfl (by kernel_rfl) (by kernel_rfl) (fun j u hj => (hh.box_at (i := 0) (cs := [.int .i64 e2.key.pfs, .int .i64 e2.key.obj, .int .i64 e2.key.off, .int .i64 e2.made, .int .i64 e2.gone, .string e2.val]) (by rfl) 0 j).trans (seg_at (n := 6) (by rfl) hj))) ?_
                refine T.step (W1.store 8 [.int .i64 e2.key.pfs, .int .i64 e2.key.obj, .int .i64 e2.key.off, .int .i64 e2.made, .int .i64 e2.gone, .string e2.val] ((box b11 39 [.int .i64 e2.key.pfs, .int .i64 e2.key.obj, .int .i64 e2.key.off, .int .i64 e2.made, .int .i64 e2.gone, .string e2.val]) :: (box b10 39 [.int .i64 e2.key.pfs, .int .i64 e2.key.obj, .int .i64 e2.key.off, .int .i64 e2.made, .int .i64 e2.gone, .string e2.val]) :: (box b9 57 [.int .i64 e1.kind, .slice A2 e1.elems.length c2, .slice A3 e1.kids.length c3, .slice A4 e1.seps.length c4, .slice A5 e1.tids.length c5]) :: (box b8 36 [.int .i64 p1.key.pfs, .int .i64 p1.key.obj, .int .i64 p1.key.off, .int .i64 p1.made]) :: (box b7 24 [.int .i64 p0.root, .slice A1 p0.nodes.length c1]) :: (busyo l1 lr1) :: (marko d1) :: (box b4 25 [.int .i64 0]) :: (box b3 39 [.int .i64 e2.key.pfs, .int .i64 e2.key.obj, .int .i64 e2.key.off, .int .i64 e2.made, .int .i64 e2.gone, .string e2.val]) :: (box b2 36 [.int .i64 p1.key.pfs, .int .i64 p1.key.obj, .int .i64 p1.key.off, .int .i64 p1.made]) :: G1) (by rfl) rfl (by kernel_rfl) (fun w' hw => exec_store (vs := [.int .i64 e2.key.pfs, .int .i64 e2.key.obj, .int .i64 e2.key.off, .int .i64 e2.made, .int .i64 e2.gone, .string e2.val]) rfl rfl rfl rfl (by kernel_rfl) (one_of rfl) (by simp) rfl hw) ?_)
                refine T.step (W1.store 7 [.int .i64 0] ((box b11 39 [.int .i64 e2.key.pfs, .int .i64 e2.key.obj, .int .i64 e2.key.off, .int .i64 e2.made, .int .i64 e2.gone, .string e2.val]) :: (box b10 39 [.int .i64 e2.key.pfs, .int .i64 e2.key.obj, .int .i64 e2.key.off, .int .i64 e2.made, .int .i64 e2.gone, .string e2.val]) :: (box b9 57 [.int .i64 e1.kind, .slice A2 e1.elems.length c2, .slice A3 e1.kids.length c3, .slice A4 e1.seps.length c4, .slice A5 e1.tids.length c5]) :: (box b8 36 [.int .i64 p1.key.pfs, .int .i64 p1.key.obj, .int .i64 p1.key.off, .int .i64 p1.made]) :: (box b7 24 [.int .i64 p0.root, .slice A1 p0.nodes.length c1]) :: (busyo l1 lr1) :: (marko d1) :: (box b4 25 [.int .i64 0]) :: (box b3 39 [.int .i64 e2.key.pfs, .int .i64 e2.key.obj, .int .i64 e2.key.off, .int .i64 e2.made, .int .i64 e2.gone, .string e2.val]) :: (box b2 36 [.int .i64 p1.key.pfs, .int .i64 p1.key.obj, .int .i64 p1.key.off, .int .i64 p1.made]) :: G1) (by rfl) rfl (by kernel_rfl) (fun w' hw => exec_store (vs := [.int .i64 0]) rfl rfl rfl rfl (by kernel_rfl) (one_of rfl) (by simp) rfl hw) ?_)
                refine T.nil ?_
                cases hX4
                refine T.ret rfl ?_
                repeat first | refine T.unthenR ?_ | refine T.unblockR ?_
                exact T.roundRet .ret [(.exit 0)] 0 5 ((box b11 39 [.int .i64 e2.key.pfs, .int .i64 e2.key.obj, .int .i64 e2.key.off, .int .i64 e2.made, .int .i64 e2.gone, .string e2.val]) :: (box b10 39 [.int .i64 e2.key.pfs, .int .i64 e2.key.obj, .int .i64 e2.key.off, .int .i64 e2.made, .int .i64 e2.gone, .string e2.val]) :: (box b9 57 [.int .i64 e1.kind, .slice A2 e1.elems.length c2, .slice A3 e1.kids.length c3, .slice A4 e1.seps.length c4, .slice A5 e1.tids.length c5]) :: (box b8 36 [.int .i64 p1.key.pfs, .int .i64 p1.key.obj, .int .i64 p1.key.off, .int .i64 p1.made]) :: (box b7 24 [.int .i64 p0.root, .slice A1 p0.nodes.length c1]) :: (loopo l1 lr1 .ret [(.exit 0)] (0 + 1)) :: (marko d1) :: (box b4 25 [.int .i64 0]) :: (box b3 39 [.int .i64 e2.key.pfs, .int .i64 e2.key.obj, .int .i64 e2.key.off, .int .i64 e2.made, .int .i64 e2.gone, .string e2.val]) :: (box b2 36 [.int .i64 p1.key.pfs, .int .i64 p1.key.obj, .int .i64 p1.key.off, .int .i64 p1.made]) :: G1) (by rfl) rfl rfl (fun w' hh => ⟨_, rfl, Exists.intro 0 (Exists.intro e2.key.pfs (Exists.intro e2.key.obj (Exists.intro e2.key.off (Exists.intro e2.made (Exists.intro e2.gone (Exists.intro e2.val (And.intro rfl (Exists.intro V12 (And.intro hV12 (And.intro rfl (hh.sub (.cons _ (.cons_cons _ (.cons_cons _ (.cons_cons _ (.cons_cons _ (.cons_cons _ (.cons_cons _ (.cons_cons _ (.cons_cons _ (.cons_cons _ (List.Sublist.refl _))))))))))))))))))))))⟩)
               ·
                rw [hc4, cond_false] at hX4
                refine T.skip_code ?_
                refine T.exit ?_
                cases hX4
                repeat first | refine T.unthenX ?_ | refine T.unblockX rfl ?_
                exact T.roundExit .ret [(.exit 0)] 1 5 ((box b11 39 [.int .i64 e2.key.pfs, .int .i64 e2.key.obj, .int .i64 e2.key.off, .int .i64 e2.made, .int .i64 e2.gone, .string e2.val]) :: (box b10 39 [.int .i64 e2.key.pfs, .int .i64 e2.key.obj, .int .i64 e2.key.off, .int .i64 e2.made, .int .i64 e2.gone, .string e2.val]) :: (box b9 57 [.int .i64 e1.kind, .slice A2 e1.elems.length c2, .slice A3 e1.kids.length c3, .slice A4 e1.seps.length c4, .slice A5 e1.tids.length c5]) :: (box b8 36 [.int .i64 p1.key.pfs, .int .i64 p1.key.obj, .int .i64 p1.key.off, .int .i64 p1.made]) :: (box b7 24 [.int .i64 p0.root, .slice A1 p0.nodes.length c1]) :: (loopo l1 lr1 .ret [(.exit 0)] (1 + 1)) :: (marko d1) :: (box b4 25 [.int .i64 0]) :: (box b3 39 [.int .i64 x8, .int .i64 x9, .int .i64 x10, .int .i64 x11, .int .i64 x12, .string x13]) :: (box b2 36 [.int .i64 p1.key.pfs, .int .i64 p1.key.obj, .int .i64 p1.key.off, .int .i64 p1.made]) :: G1) (by rfl) rfl rfl (fun w' hh => ⟨_, rfl, Exists.intro 1 (Exists.intro x8 (Exists.intro x9 (Exists.intro x10 (Exists.intro x11 (Exists.intro x12 (Exists.intro x13 (And.intro rfl (Exists.intro V12 (And.intro hV12 (And.intro rfl (hh.sub (.cons _ (.cons_cons _ (.cons_cons _ (.cons_cons _ (.cons_cons _ (.cons_cons _ (.cons_cons _ (.cons_cons _ (.cons_cons _ (.cons_cons _ (List.Sublist.refl _))))))))))))))))))))))⟩)
             ·
              rintro v w' ⟨k4, z31, z32, z33, z34, z35, z36, rfl, V11, hV11, rfl, hh⟩
              try dsimp only at hX3
              refine ⟨V11, ((box b10 39 [.int .i64 e2.key.pfs, .int .i64 e2.key.obj, .int .i64 e2.key.off, .int .i64 e2.made, .int .i64 e2.gone, .string e2.val]) :: (box b9 57 [.int .i64 e1.kind, .slice A2 e1.elems.length c2, .slice A3 e1.kids.length c3, .slice A4 e1.seps.length c4, .slice A5 e1.tids.length c5]) :: (box b8 36 [.int .i64 p1.key.pfs, .int .i64 p1.key.obj, .int .i64 p1.key.off, .int .i64 p1.made]) :: (box b7 24 [.int .i64 p0.root, .slice A1 p0.nodes.length c1]) :: (loopo l1 lr1 .ret [(.exit 0)] (k4 + 1)) :: (marko d1) :: (box b4 25 [.int .i64 0]) :: (box b3 39 [.int .i64 z31, .int .i64 z32, .int .i64 z33, .int .i64 z34, .int .i64 z35, .string z36]) :: (box b2 36 [.int .i64 p1.key.pfs, .int .i64 p1.key.obj, .int .i64 p1.key.off, .int .i64 p1.made]) :: G1), hh, ?_⟩
              clear hh
              refine TI.all [9] (by kernel_rfl) rfl ⟨?_, trivial⟩
              refine TI.br rfl (W1.toR (W1.look (.bool true) (by kernel_rfl) (fun _ _ => by kernel_rfl) ?_))
              refine TI.all [10] (by kernel_rfl) rfl ⟨?_, trivial⟩
              refine TI.br rfl (W1.toR (W1.look (.bool true) (by kernel_rfl) (fun _ _ => by kernel_rfl) ?_))
              refine TI.done (by kernel_rfl) ?_
              cases hX3
              exact fun a w' hf hh => Exists.intro (k4 + 1) (Exists.intro z31 (Exists.intro z32 (Exists.intro z33 (Exists.intro z34 (Exists.intro z35 (Exists.intro z36 (And.intro rfl (Exists.intro V11 (And.intro (View.le_trans (View.le_trans hV9 hV10) hV11) (And.intro (((((((((Fr.nil hf).pick hf 36 rfl).pick hf 22 rfl).pick hf 21 rfl).pick hf 20 rfl).pick hf 9 rfl).pick hf 6 rfl).pick hf 4 rfl).pick hf 3 rfl) (hh.sub (.cons _ (.cons_cons _ (.cons_cons _ (.cons_cons _ (.cons_cons _ (.cons_cons _ (.cons_cons _ (.cons_cons _ (.cons_cons _ (List.Sublist.refl _)))))))))))))))))))))
            ·
             refine TI.br rfl (W1.toR (W1.look (.agg #[.int .i64 e2.key.pfs, .int .i64 e2.key.obj, .int .i64 e2.key.off, .int .i64 e2.made, .int .i64 e2.gone, .string e2.val]) (by kernel_rfl) (fun w' hh => exec_loadN (cs := [.int .i64 e2.key.pfs, .int .i64 e2.key.obj, .int .i64 e2.key.off, .int .i64 e2.made, .int .i64 e2.gone, .string e2.val]) rfl rfl (by kernel_rfl) (by kernel_rfl) (fun j u hj => (hh.box_at (i := 0) (cs := [.int .i64 e2.key.pfs, .int .i64 e2.key.obj, .int .i64 e2.key.off, .int .i64 e2.made, .int .i64 e2.gone, .string e2.val]) (by rfl) 0 j).trans (seg_at (n := 6) (by rfl) hj))) ?_))
             refine TI.all [6] (by kernel_rfl) rfl ⟨?_, trivial⟩
             refine TI.br rfl (W1.toR (W1.look (.func (.yield l1) #[] #[]) (by kernel_rfl) (fun _ _ => by kernel_rfl) ?_))
             refine TI.all [8] (by kernel_rfl) rfl ⟨?_, trivial⟩
             obtain ⟨q6, hX4, hX3⟩ := Option.bind_eq_some_iff.1 hX3
             refine TI.br rfl (W1R.yield 4 l1 (fun v w' => ∃ (k4 : Nat) (z31 : Int) (z32 : Int) (z33 : Int) (z34 : Int) (z35 : Int) (z36 : ByteArray), q6 = (k4, z31, z32, z33, z34, z35, z36) ∧ ∃ (V11 : View), View.le V10 V11 ∧ v = .bool false ∧ Hp w V11 ((box b10 39 [.int .i64 e2.key.pfs, .int .i64 e2.key.obj, .int .i64 e2.key.off, .int .i64 e2.made, .int .i64 e2.gone, .string e2.val]) :: (box b9 57 [.int .i64 e1.kind, .slice A2 e1.elems.length c2, .slice A3 e1.kids.length c3, .slice A4 e1.seps.length c4, .slice A5 e1.tids.length c5]) :: (box b8 36 [.int .i64 p1.key.pfs, .int .i64 p1.key.obj, .int .i64 p1.key.off, .int .i64 p1.made]) :: (box b7 24 [.int .i64 p0.root, .slice A1 p0.nodes.length c1]) :: (loopo l1 lr1 .ret [(.exit 0)] (k4 + 1)) :: (marko d1) :: (box b4 25 [.int .i64 0]) :: (box b3 39 [.int .i64 z31, .int .i64 z32, .int .i64 z33, .int .i64 z34, .int .i64 z35, .string z36]) :: (box b2 36 [.int .i64 p1.key.pfs, .int .i64 p1.key.obj, .int .i64 p1.key.off, .int .i64 p1.made]) :: G1) w') (by rfl) hl1 hl2 hl3 hl4 (by rfl) (by kernel_rfl) rfl (by kernel_rfl) rfl ?_ ?_)
             ·
              refine T.region ?_
              refine T.step (W1.new 39 [.int .i64 0, .int .i64 0, .int .i64 0, .int .i64 0, .int .i64 0, .string (ByteArray.mk #[])] (fun b => .pointer (some ⟨b, 0, none⟩)) (by kernel_rfl) (fun _ => by kernel_rfl) (fun b11 => ?_))
              refine T.step (W1.store 0 [.int .i64 e2.key.pfs, .int .i64 e2.key.obj, .int .i64 e2.key.off, .int .i64 e2.made, .int .i64 e2.gone, .string e2.val] ((box b11 39 [.int .i64 e2.key.pfs, .int .i64 e2.key.obj, .int .i64 e2.key.off, .int .i64 e2.made, .int .i64 e2.gone, .string e2.val]) :: (box b10 39 [.int .i64 e2.key.pfs, .int .i64 e2.key.obj, .int .i64 e2.key.off, .int .i64 e2.made, .int .i64 e2.gone, .string e2.val]) :: (box b9 57 [.int .i64 e1.kind, .slice A2 e1.elems.length c2, .slice A3 e1.kids.length c3, .slice A4 e1.seps.length c4, .slice A5 e1.tids.length c5]) :: (box b8 36 [.int .i64 p1.key.pfs, .int .i64 p1.key.obj, .int .i64 p1.key.off, .int .i64 p1.made]) :: (box b7 24 [.int .i64 p0.root, .slice A1 p0.nodes.length c1]) :: (loopo l1 lr1 .ret [(.exit 0)] 0) :: (marko d1) :: (box b4 25 [.int .i64 0]) :: (box b3 39 [.int .i64 x8, .int .i64 x9, .int .i64 x10, .int .i64 x11, .int .i64 x12, .string x13]) :: (box b2 36 [.int .i64 p1.key.pfs, .int .i64 p1.key.obj, .int .i64 p1.key.off, .int .i64 p1.made]) :: G1) (by rfl) rfl (by kernel_rfl) (fun w' hw => exec_store (vs := [.int .i64 e2.key.pfs, .int .i64 e2.key.obj, .int .i64 e2.key.off, .int .i64 e2.made, .int .i64 e2.gone, .string e2.val]) rfl rfl rfl rfl (by kernel_rfl) (one_of rfl) (by simp) rfl hw) ?_)
              refine T.nil ?_
              refine T.unthenN ?_
              refine T.begin 5 ((box b11 39 [.int .i64 e2.key.pfs, .int .i64 e2.key.obj, .int .i64 e2.key.off, .int .i64 e2.made, .int .i64 e2.gone, .string e2.val]) :: (box b10 39 [.int .i64 e2.key.pfs, .int .i64 e2.key.obj, .int .i64 e2.key.off, .int .i64 e2.made, .int .i64 e2.gone, .string e2.val]) :: (box b9 57 [.int .i64 e1.kind, .slice A2 e1.elems.length c2, .slice A3 e1.kids.length c3, .slice A4 e1.seps.length c4, .slice A5 e1.tids.length c5]) :: (box b8 36 [.int .i64 p1.key.pfs, .int .i64 p1.key.obj, .int .i64 p1.key.off, .int .i64 p1.made]) :: (box b7 24 [.int .i64 p0.root, .slice A1 p0.nodes.length c1]) :: (busyo l1 lr1) :: (marko d1) :: (box b4 25 [.int .i64 0]) :: (box b3 39 [.int .i64 x8, .int .i64 x9, .int .i64 x10, .int .i64 x11, .int .i64 x12, .string x13]) :: (box b2 36 [.int .i64 p1.key.pfs, .int .i64 p1.key.obj, .int .i64 p1.key.off, .int .i64 p1.made]) :: G1) (by rfl) rfl ?_
              refine T.block ?_
              refine T.seq ?_
              obtain ⟨z37, hX5, hX4⟩ := Option.bind_eq_some_iff.1 hX4
              refine T.cut (fun a w' => ∃ (V12 : View), View.le V10 V12 ∧ Fr 24 [(4, .pointer (some ⟨b3, 0, none⟩)), (5, .pointer (some ⟨b4, 0, none⟩)), (7, .pointer (some ⟨b11, 0, none⟩)), (21, .bool z37)] a ∧ Hp w V12 ((box b11 39 [.int .i64 e2.key.pfs, .int .i64 e2.key.obj, .int .i64 e2.key.off, .int .i64 e2.made, .int .i64 e2.gone, .string e2.val]) :: (box b10 39 [.int .i64 e2.key.pfs, .int .i64 e2.key.obj, .int .i64 e2.key.off, .int .i64 e2.made, .int .i64 e2.gone, .string e2.val]) :: (box b9 57 [.int .i64 e1.kind, .slice A2 e1.elems.length c2, .slice A3 e1.kids.length c3, .slice A4 e1.seps.length c4, .slice A5 e1.tids.length c5]) :: (box b8 36 [.int .i64 p1.key.pfs, .int .i64 p1.key.obj, .int .i64 p1.key.off, .int .i64 p1.made]) :: (box b7 24 [.int .i64 p0.root, .slice A1 p0.nodes.length c1]) :: (busyo l1 lr1) :: (marko d1) :: (box b4 25 [.int .i64 0]) :: (box b3 39 [.int .i64 x8, .int .i64 x9, .int .i64 x10, .int .i64 x11, .int .i64 x12, .string x13]) :: (box b2 36 [.int .i64 p1.key.pfs, .int .i64 p1.key.obj, .int .i64 p1.key.off, .int .i64 p1.made]) :: G1) w') ?_ ?_
              ·
               refine T.anyI (by kernel_rfl) ?_
               refine TI.all [0, 2] (by kernel_rfl) rfl ⟨?_, ?_, trivial⟩
               ·
                refine TI.br rfl (W1.toR (W1.look (.agg #[.int .i64 e2.key.pfs, .int .i64 e2.key.obj, .int .i64 e2.key.off, .int .i64 e2.made, .int .i64 e2.gone, .string e2.val]) (by kernel_rfl) (fun w' hh => exec_loadN (cs := [.int .i64 e2.key.pfs, .int .i64 e2.key.obj, .int .i64 e2.key.off, .int .i64 e2.made, .int .i64 e2.gone, .string e2.val]) rfl rfl (by kernel_rfl) (by kernel_rfl) (fun j u hj => (hh.box_at (i := 0) (cs := [.int .i64 e2.key.pfs, .int .i64 e2.key.obj, .int .i64 e2.key.off, .int .i64 e2.made, .int .i64 e2.gone, .string e2.val]) (by rfl) 0 j).trans (seg_at (n := 6) (by rfl) hj))) ?_))
                refine TI.all [1, 2] (by kernel_rfl) rfl ⟨?_, ?_, trivial⟩
                ·
                 obtain ⟨r4, hb6, hX5⟩ := Option.bind_eq_some_iff.1 hX5
                 refine TI.br rfl <| W1.toR (W1.call (vAg eSpot) r4 15 #[.agg #[.int .i64 e2.key.pfs, .int .i64 e2.key.obj, .int .i64 e2.key.off, .int .i64 e2.made, .int .i64 e2.gone, .string e2.val]] (by kernel_rfl) (fun _ => by kernel_rfl) (fun w' hh => elem_Spot_l e2 r4 hb6 w' ) ?_)
                 intro u V12 hV12 hu
                 obtain rfl := sureSpot _ _ _ hu
                 refine TI.all [2] (by kernel_rfl) rfl ⟨?_, trivial⟩
                 refine TI.br rfl (W1.toR (W1.look (.agg #[.int .i64 p1.key.pfs, .int .i64 p1.key.obj, .int .i64 p1.key.off, .int .i64 p1.made]) (by kernel_rfl) (fun w' hh => exec_loadN (cs := [.int .i64 p1.key.pfs, .int .i64 p1.key.obj, .int .i64 p1.key.off, .int .i64 p1.made]) rfl rfl (by kernel_rfl) (by kernel_rfl) (fun j u hj => (hh.box_at (i := 9) (cs := [.int .i64 p1.key.pfs, .int .i64 p1.key.obj, .int .i64 p1.key.off, .int .i64 p1.made]) (by rfl) 0 j).trans (seg_at (n := 4) (by rfl) hj))) ?_))
                 refine TI.all [3] (by kernel_rfl) rfl ⟨?_, trivial⟩
                 refine TI.br rfl (W1.toR (W1.look (.bool (r4 == p1)) (by kernel_rfl) (fun w' hh => exec_eql_DSpot r4 p1 w' rfl rfl rfl) ?_))
                 refine TI.done (by kernel_rfl) ?_
                 cases hX5
                 exact fun a w' hf hh => Exists.intro V12 (And.intro hV12 (And.intro (((((Fr.nil hf).pick hf 21 rfl).pick hf 7 rfl).pick hf 5 rfl).pick hf 4 rfl) (hh.sub (.cons_cons _ (.cons_cons _ (.cons_cons _ (.cons_cons _ (.cons_cons _ (.cons_cons _ (.cons_cons _ (.cons_cons _ (.cons_cons _ (.cons_cons _ (List.Sublist.refl _))))))))))))))
                ·
                 refine TI.br rfl (W1.toR (W1.look (.agg #[.int .i64 p1.key.pfs, .int .i64 p1.key.obj, .int .i64 p1.key.off, .int .i64 p1.made]) (by kernel_rfl) (fun w' hh => exec_loadN (cs := [.int .i64 p1.key.pfs, .int .i64 p1.key.obj, .int .i64 p1.key.off, .int .i64 p1.made]) rfl rfl (by kernel_rfl) (by kernel_rfl) (fun j u hj => (hh.box_at (i := 9) (cs := [.int .i64 p1.key.pfs, .int .i64 p1.key.obj, .int .i64 p1.key.off, .int .i64 p1.made]) (by rfl) 0 j).trans (seg_at (n := 4) (by rfl) hj))) ?_))
                 refine TI.all [1] (by kernel_rfl) rfl ⟨?_, trivial⟩
                 obtain ⟨r4, hb6, hX5⟩ := Option.bind_eq_some_iff.1 hX5
                 refine TI.br rfl <| W1.toR (W1.call (vAg eSpot) r4 15 #[.agg #[.int .i64 e2.key.pfs, .int .i64 e2.key.obj, .int .i64 e2.key.off, .int .i64 e2.made, .int .i64 e2.gone, .string e2.val]] (by kernel_rfl) (fun _ => by kernel_rfl) (fun w' hh => elem_Spot_l e2 r4 hb6 w' ) ?_)
                 intro u V12 hV12 hu
                 obtain rfl := sureSpot _ _ _ hu
                 refine TI.all [3] (by kernel_rfl) rfl ⟨?_, trivial⟩
                 refine TI.br rfl (W1.toR (W1.look (.bool (r4 == p1)) (by kernel_rfl) (fun w' hh => exec_eql_DSpot r4 p1 w' rfl rfl rfl) ?_))
                 refine TI.done (by kernel_rfl) ?_
                 cases hX5
                 exact fun a w' hf hh => Exists.intro V12 (And.intro hV12 (And.intro (((((Fr.nil hf).pick hf 21 rfl).pick hf 7 rfl).pick hf 5 rfl).pick hf 4 rfl) (hh.sub (.cons_cons _ (.cons_cons _ (.cons_cons _ (.cons_cons _ (.cons_cons _ (.cons_cons _ (.cons_cons _ (.cons_cons _ (.cons_cons _ (.cons_cons _ (List.Sublist.refl _))))))))))))))
               ·
                refine TI.br rfl (W1.toR (W1.look (.agg #[.int .i64 p1.key.pfs, .int .i64 p1.key.obj, .int .i64 p1.key.off, .int .i64 p1.made]) (by kernel_rfl) (fun w' hh => exec_loadN (cs := [.int .i64 p1.key.pfs, .int .i64 p1.key.obj, .int .i64 p1.key.off, .int .i64 p1.made]) rfl rfl (by kernel_rfl) (by kernel_rfl) (fun j u hj => (hh.box_at (i := 9) (cs := [.int .i64 p1.key.pfs, .int .i64 p1.key.obj, .int .i64 p1.key.off, .int .i64 p1.made]) (by rfl) 0 j).trans (seg_at (n := 4) (by rfl) hj))) ?_))
                refine TI.all [0] (by kernel_rfl) rfl ⟨?_, trivial⟩
                refine TI.br rfl (W1.toR (W1.look (.agg #[.int .i64 e2.key.pfs, .int .i64 e2.key.obj, .int .i64 e2.key.off, .int .i64 e2.made, .int .i64 e2.gone, .string e2.val]) (by kernel_rfl) (fun w' hh => exec_loadN (cs := [.int .i64 e2.key.pfs, .int .i64 e2.key.obj, .int .i64 e2.key.off, .int .i64 e2.made, .int .i64 e2.gone, .string e2.val]) rfl rfl (by kernel_rfl) (by kernel_rfl) (fun j u hj => (hh.box_at (i := 0) (cs := [.int .i64 e2.key.pfs, .int .i64 e2.key.obj, .int .i64 e2.key.off, .int .i64 e2.made, .int .i64 e2.gone, .string e2.val]) (by rfl) 0 j).trans (seg_at (n := 6) (by rfl) hj))) ?_))
                refine TI.all [1] (by kernel_rfl) rfl ⟨?_, trivial⟩
                obtain ⟨r4, hb6, hX5⟩ := Option.bind_eq_some_iff.1 hX5
                refine TI.br rfl <| W1.toR (W1.call (vAg eSpot) r4 15 #[.agg #[.int .i64 e2.key.pfs, .int .i64 e2.key.obj, .int .i64 e2.key.off, .int .i64 e2.made, .int .i64 e2.gone, .string e2.val]] (by kernel_rfl) (fun _ => by kernel_rfl) (fun w' hh => elem_Spot_l e2 r4 hb6 w' ) ?_)
                intro u V12 hV12 hu
                obtain rfl := sureSpot _ _ _ hu
                refine TI.all [3] (by kernel_rfl) rfl ⟨?_, trivial⟩
                refine TI.br rfl (W1.toR (W1.look (.bool (r4 == p1)) (by kernel_rfl) (fun w' hh => exec_eql_DSpot r4 p1 w' rfl rfl rfl) ?_))
                refine TI.done (by kernel_rfl) ?_
                cases hX5
                exact fun a w' hf hh => Exists.intro V12 (And.intro hV12 (And.intro (((((Fr.nil hf).pick hf 21 rfl).pick hf 7 rfl).pick hf 5 rfl).pick hf 4 rfl) (hh.sub (.cons_cons _ (.cons_cons _ (.cons_cons _ (.cons_cons _ (.cons_cons _ (.cons_cons _ (.cons_cons _ (.cons_cons _ (.cons_cons _ (.cons_cons _ (List.Sublist.refl _))))))))))))))
              ·
               rintro a w' ⟨V12, hV12, hf, hh⟩
               refine (?_ : T 24 w V12 ((box b11 39 [.int .i64 e2.key.pfs, .int .i64 e2.key.obj, .int .i64 e2.key.off, .int .i64 e2.made, .int .i64 e2.gone, .string e2.val]) :: (box b10 39 [.int .i64 e2.key.pfs, .int .i64 e2.key.obj, .int .i64 e2.key.off, .int .i64 e2.made, .int .i64 e2.gone, .string e2.val]) :: (box b9 57 [.int .i64 e1.kind, .slice A2 e1.elems.length c2, .slice A3 e1.kids.length c3, .slice A4 e1.seps.length c4, .slice A5 e1.tids.length c5]) :: (box b8 36 [.int .i64 p1.key.pfs, .int .i64 p1.key.obj, .int .i64 p1.key.off, .int .i64 p1.made]) :: (box b7 24 [.int .i64 p0.root, .slice A1 p0.nodes.length c1]) :: (busyo l1 lr1) :: (marko d1) :: (box b4 25 [.int .i64 0]) :: (box b3 39 [.int .i64 x8, .int .i64 x9, .int .i64 x10, .int .i64 x11, .int .i64 x12, .string x13]) :: (box b2 36 [.int .i64 p1.key.pfs, .int .i64 p1.key.obj, .int .i64 p1.key.off, .int .i64 p1.made]) :: G1) [(4, .pointer (some ⟨b3, 0, none⟩)), (5, .pointer (some ⟨b4, 0, none⟩)), (7, .pointer (some ⟨b11, 0, none⟩)), (21, .bool z37)] _) a w' hf hh
               clear hf hh
               refine T.cond z37 (by kernel_rfl) (by kernel_rfl) (fun hc4 => ?_) (fun hc4 => ?_)
               ·
                rw [hc4, cond_true] at hX4
                refine T.seq ?_
                refine T.region ?_
                refine T.look (.agg #[.int .i64 e2.key.pfs, .int .i64 e2.key.obj, .int .i64 e2.key.off, .int .i64 e2.made, .int .i64 e2.gone, .string e2.val]) (by kernel_rfl) (fun w' hh => exec_loadN (cs := [.int .i64 e2.key.pfs, .int .i64 e2.key.obj, .int .i64 e2.key.off, .int .i64 e2.made, .int .i64 e2.gone, .string e2.val]) rfl rfl (by kernel_rfl) (by kernel_rfl) (fun j u hj => (hh.box_at (i := 0) (cs := [.int .i64 e2.key.pfs, .int .i64 e2.key.obj, .int .i64 e2.key.off, .int .i64 e2.made, .int .i64 e2.gone, .string e2.val]) (by rfl) 0 j).trans (seg_at (n := 6) (by rfl) hj))) ?_
                refine T.step (W1.store 8 [.int .i64 e2.key.pfs, .int .i64 e2.key.obj, .int .i64 e2.key.off, .int .i64 e2.made, .int .i64 e2.gone, .string e2.val] ((box b11 39 [.int .i64 e2.key.pfs, .int .i64 e2.key.obj, .int .i64 e2.key.off, .int .i64 e2.made, .int .i64 e2.gone, .string e2.val]) :: (box b10 39 [.int .i64 e2.key.pfs, .int .i64 e2.key.obj, .int .i64 e2.key.off, .int .i64 e2.made, .int .i64 e2.gone, .string e2.val]) :: (box b9 57 [.int .i64 e1.kind, .slice A2 e1.elems.length c2, .slice A3 e1.kids.length c3, .slice A4 e1.seps.length c4, .slice A5 e1.tids.length c5]) :: (box b8 36 [.int .i64 p1.key.pfs, .int .i64 p1.key.obj, .int .i64 p1.key.off, .int .i64 p1.made]) :: (box b7 24 [.int .i64 p0.root, .slice A1 p0.nodes.length c1]) :: (busyo l1 lr1) :: (marko d1) :: (box b4 25 [.int .i64 0]) :: (box b3 39 [.int .i64 e2.key.pfs, .int .i64 e2.key.obj, .int .i64 e2.key.off, .int .i64 e2.made, .int .i64 e2.gone, .string e2.val]) :: (box b2 36 [.int .i64 p1.key.pfs, .int .i64 p1.key.obj, .int .i64 p1.key.off, .int .i64 p1.made]) :: G1) (by rfl) rfl (by kernel_rfl) (fun w' hw => exec_store (vs := [.int .i64 e2.key.pfs, .int .i64 e2.key.obj, .int .i64 e2.key.off, .int .i64 e2.made, .int .i64 e2.gone, .string e2.val]) rfl rfl rfl rfl (by kernel_rfl) (one_of rfl) (by simp) rfl hw) ?_)
                refine T.step (W1.store 7 [.int .i64 0] ((box b11 39 [.int .i64 e2.key.pfs, .int .i64 e2.key.obj, .int .i64 e2.key.off, .int .i64 e2.made, .int .i64 e2.gone, .string e2.val]) :: (box b10 39 [.int .i64 e2.key.pfs, .int .i64 e2.key.obj, .int .i64 e2.key.off, .int .i64 e2.made, .int .i64 e2.gone, .string e2.val]) :: (box b9 57 [.int .i64 e1.kind, .slice A2 e1.elems.length c2, .slice A3 e1.kids.length c3, .slice A4 e1.seps.length c4, .slice A5 e1.tids.length c5]) :: (box b8 36 [.int .i64 p1.key.pfs, .int .i64 p1.key.obj, .int .i64 p1.key.off, .int .i64 p1.made]) :: (box b7 24 [.int .i64 p0.root, .slice A1 p0.nodes.length c1]) :: (busyo l1 lr1) :: (marko d1) :: (box b4 25 [.int .i64 0]) :: (box b3 39 [.int .i64 e2.key.pfs, .int .i64 e2.key.obj, .int .i64 e2.key.off, .int .i64 e2.made, .int .i64 e2.gone, .string e2.val]) :: (box b2 36 [.int .i64 p1.key.pfs, .int .i64 p1.key.obj, .int .i64 p1.key.off, .int .i64 p1.made]) :: G1) (by rfl) rfl (by kernel_rfl) (fun w' hw => exec_store (vs := [.int .i64 0]) rfl rfl rfl rfl (by kernel_rfl) (one_of rfl) (by simp) rfl hw) ?_)
                refine T.nil ?_
                cases hX4
                refine T.ret rfl ?_
                repeat first | refine T.unthenR ?_ | refine T.unblockR ?_
                exact T.roundRet .ret [(.exit 0)] 0 5 ((box b11 39 [.int .i64 e2.key.pfs, .int .i64 e2.key.obj, .int .i64 e2.key.off, .int .i64 e2.made, .int .i64 e2.gone, .string e2.val]) :: (box b10 39 [.int .i64 e2.key.pfs, .int .i64 e2.key.obj, .int .i64 e2.key.off, .int .i64 e2.made, .int .i64 e2.gone, .string e2.val]) :: (box b9 57 [.int .i64 e1.kind, .slice A2 e1.elems.length c2, .slice A3 e1.kids.length c3, .slice A4 e1.seps.length c4, .slice A5 e1.tids.length c5]) :: (box b8 36 [.int .i64 p1.key.pfs, .int .i64 p1.key.obj, .int .i64 p1.key.off, .int .i64 p1.made]) :: (box b7 24 [.int .i64 p0.root, .slice A1 p0.nodes.length c1]) :: (loopo l1 lr1 .ret [(.exit 0)] (0 + 1)) :: (marko d1) :: (box b4 25 [.int .i64 0]) :: (box b3 39 [.int .i64 e2.key.pfs, .int .i64 e2.key.obj, .int .i64 e2.key.off, .int .i64 e2.made, .int .i64 e2.gone, .string e2.val]) :: (box b2 36 [.int .i64 p1.key.pfs, .int .i64 p1.key.obj, .int .i64 p1.key.off, .int .i64 p1.made]) :: G1) (by rfl) rfl rfl (fun w' hh => ⟨_, rfl, Exists.intro 0 (Exists.intro e2.key.pfs (Exists.intro e2.key.obj (Exists.intro e2.key.off (Exists.intro e2.made (Exists.intro e2.gone (Exists.intro e2.val (And.intro rfl (Exists.intro V12 (And.intro hV12 (And.intro rfl (hh.sub (.cons _ (.cons_cons _ (.cons_cons _ (.cons_cons _ (.cons_cons _ (.cons_cons _ (.cons_cons _ (.cons_cons _ (.cons_cons _ (.cons_cons _ (List.Sublist.refl _))))))))))))))))))))))⟩)
               ·
                rw [hc4, cond_false] at hX4
                refine T.skip_code ?_
                refine T.exit ?_
                cases hX4
                repeat first | refine T.unthenX ?_ | refine T.unblockX rfl ?_
                exact T.roundExit .ret [(.exit 0)] 1 5 ((box b11 39 [.int .i64 e2.key.pfs, .int .i64 e2.key.obj, .int .i64 e2.key.off, .int .i64 e2.made, .int .i64 e2.gone, .string e2.val]) :: (box b10 39 [.int .i64 e2.key.pfs, .int .i64 e2.key.obj, .int .i64 e2.key.off, .int .i64 e2.made, .int .i64 e2.gone, .string e2.val]) :: (box b9 57 [.int .i64 e1.kind, .slice A2 e1.elems.length c2, .slice A3 e1.kids.length c3, .slice A4 e1.seps.length c4, .slice A5 e1.tids.length c5]) :: (box b8 36 [.int .i64 p1.key.pfs, .int .i64 p1.key.obj, .int .i64 p1.key.off, .int .i64 p1.made]) :: (box b7 24 [.int .i64 p0.root, .slice A1 p0.nodes.length c1]) :: (loopo l1 lr1 .ret [(.exit 0)] (1 + 1)) :: (marko d1) :: (box b4 25 [.int .i64 0]) :: (box b3 39 [.int .i64 x8, .int .i64 x9, .int .i64 x10, .int .i64 x11, .int .i64 x12, .string x13]) :: (box b2 36 [.int .i64 p1.key.pfs, .int .i64 p1.key.obj, .int .i64 p1.key.off, .int .i64 p1.made]) :: G1) (by rfl) rfl rfl (fun w' hh => ⟨_, rfl, Exists.intro 1 (Exists.intro x8 (Exists.intro x9 (Exists.intro x10 (Exists.intro x11 (Exists.intro x12 (Exists.intro x13 (And.intro rfl (Exists.intro V12 (And.intro hV12 (And.intro rfl (hh.sub (.cons _ (.cons_cons _ (.cons_cons _ (.cons_cons _ (.cons_cons _ (.cons_cons _ (.cons_cons _ (.cons_cons _ (.cons_cons _ (.cons_cons _ (List.Sublist.refl _))))))))))))))))))))))⟩)
             ·
              rintro v w' ⟨k4, z31, z32, z33, z34, z35, z36, rfl, V11, hV11, rfl, hh⟩
              try dsimp only at hX3
              refine ⟨V11, ((box b10 39 [.int .i64 e2.key.pfs, .int .i64 e2.key.obj, .int .i64 e2.key.off, .int .i64 e2.made, .int .i64 e2.gone, .string e2.val]) :: (box b9 57 [.int .i64 e1.kind, .slice A2 e1.elems.length c2, .slice A3 e1.kids.length c3, .slice A4 e1.seps.length c4, .slice A5 e1.tids.length c5]) :: (box b8 36 [.int .i64 p1.key.pfs, .int .i64 p1.key.obj, .int .i64 p1.key.off, .int .i64 p1.made]) :: (box b7 24 [.int .i64 p0.root, .slice A1 p0.nodes.length c1]) :: (loopo l1 lr1 .ret [(.exit 0)] (k4 + 1)) :: (marko d1) :: (box b4 25 [.int .i64 0]) :: (box b3 39 [.int .i64 z31, .int .i64 z32, .int .i64 z33, .int .i64 z34, .int .i64 z35, .string z36]) :: (box b2 36 [.int .i64 p1.key.pfs, .int .i64 p1.key.obj, .int .i64 p1.key.off, .int .i64 p1.made]) :: G1), hh, ?_⟩
              clear hh
              refine TI.all [9] (by kernel_rfl) rfl ⟨?_, trivial⟩
              refine TI.br rfl (W1.toR (W1.look (.bool true) (by kernel_rfl) (fun _ _ => by kernel_rfl) ?_))
              refine TI.all [10] (by kernel_rfl) rfl ⟨?_, trivial⟩
              refine TI.br rfl (W1.toR (W1.look (.bool true) (by kernel_rfl) (fun _ _ => by kernel_rfl) ?_))
              refine TI.done (by kernel_rfl) ?_
              cases hX3
              exact fun a w' hf hh => Exists.intro (k4 + 1) (Exists.intro z31 (Exists.intro z32 (Exists.intro z33 (Exists.intro z34 (Exists.intro z35 (Exists.intro z36 (And.intro rfl (Exists.intro V11 (And.intro (View.le_trans (View.le_trans hV9 hV10) hV11) (And.intro (((((((((Fr.nil hf).pick hf 36 rfl).pick hf 22 rfl).pick hf 21 rfl).pick hf 20 rfl).pick hf 9 rfl).pick hf 6 rfl).pick hf 4 rfl).pick hf 3 rfl) (hh.sub (.cons _ (.cons_cons _ (.cons_cons _ (.cons_cons _ (.cons_cons _ (.cons_cons _ (.cons_cons _ (.cons_cons _ (.cons_cons _ (List.Sublist.refl _)))))))))))))))))))))
         ·
          rintro a w' ⟨k3, z25, z26, z27, z28, z29, z30, rfl, V8, hV8, hf, hh⟩
          try dsimp only at hY1
          refine (?_ : T 59 w V8 ((box b9 57 [.int .i64 e1.kind, .slice A2 e1.elems.length c2, .slice A3 e1.kids.length c3, .slice A4 e1.seps.length c4, .slice A5 e1.tids.length c5]) :: (box b8 36 [.int .i64 p1.key.pfs, .int .i64 p1.key.obj, .int .i64 p1.key.off, .int .i64 p1.made]) :: (box b7 24 [.int .i64 p0.root, .slice A1 p0.nodes.length c1]) :: (loopo l1 lr1 .ret [(.exit 0)] k3) :: (marko d1) :: (box b4 25 [.int .i64 0]) :: (box b3 39 [.int .i64 z25, .int .i64 z26, .int .i64 z27, .int .i64 z28, .int .i64 z29, .string z30]) :: (box b2 36 [.int .i64 p1.key.pfs, .int .i64 p1.key.obj, .int .i64 p1.key.off, .int .i64 p1.made]) :: G1) [(3, .func (.yield l1) #[] #[]), (4, .pointer (some ⟨b7, 0, none⟩)), (6, .pointer (some ⟨b8, 0, none⟩)), (9, .pointer (some ⟨b9, 0, none⟩)), (20, .slice A2 e1.elems.length c2), (21, .int .i64 (e1.elems.length : Int)), (22, .int .i64 x14), (36, .bool (!(isz k3)))] _) a w' hf hh
          clear hf hh
          cases k3 with
          | zero =>
           rw [natCase_zero] at hY1
           refine T.cond false (by kernel_rfl) (by kernel_rfl) (fun h => Bool.noConfusion h) (fun _ => ?_)
           refine T.skip_code ?_
           refine T.region ?_
           refine T.pure (.int .i64 (IntKind.i64.wrap (x14 + 1))) (by kernel_rfl) (fun _ => by kernel_rfl) ?_
           refine T.pure (.int .i64 (IntKind.i64.wrap (x14 + 1))) (by kernel_rfl) (fun _ => by kernel_rfl) ?_
           refine T.nil ?_
           cases hY1
           exact fun a w' hf hh => Exists.intro (z25, z26, z27, z28, z29, z30, IntKind.i64.wrap (x14 + 1)) (And.intro rfl (Exists.intro z25 (Exists.intro z26 (Exists.intro z27 (Exists.intro z28 (Exists.intro z29 (Exists.intro z30 (Exists.intro (IntKind.i64.wrap (x14 + 1)) (And.intro rfl (Exists.intro V8 (And.intro (View.le_trans hV6 hV8) (And.intro ((((((((Fr.nil hf).pick hf 22 rfl).pick hf 21 rfl).pick hf 20 rfl).pick hf 9 rfl).pick hf 6 rfl).pick hf 4 rfl).pick hf 3 rfl) (hh.sub (.cons_cons _ (.cons_cons _ (.cons_cons _ (.cons_cons _ (.cons_cons _ (.cons_cons _ (.cons_cons _ (.cons_cons _ (List.Sublist.refl _))))))))))))))))))))))
          | succ k5 =>
           rw [natCase_succ] at hY1
           refine T.cond true (by kernel_rfl) (by kernel_rfl) (fun _ => ?_) (fun h => Bool.noConfusion h)
           refine T.seq ?_
           refine T.region ?_
           refine T.pure (.bool false) (by kernel_rfl) (fun _ => by kernel_rfl) ?_
           refine T.nil ?_
           cases hY1
           cases (hr2 _ rfl)
           try dsimp only at hS1
           have hres := Option.some.inj hS1
           subst hres
           refine T.ret rfl ?_
           repeat first | refine T.unthen ?_ | refine T.unblock ?_
           exact T.ret1 rfl (ResIs.tmp rfl) fun w' hh => ⟨_, rfl, Exists.intro (k5 + 1) (Exists.intro z25 (Exists.intro z26 (Exists.intro z27 (Exists.intro z28 (Exists.intro z29 (Exists.intro z30 (And.intro rfl (Exists.intro V8 (And.intro (View.le_trans hV6 hV8) (And.intro rfl (hh.sub (.cons _ (.cons _ (.cons _ (.cons_cons _ (.cons_cons _ (.cons_cons _ (.cons_cons _ (.cons_cons _ (List.Sublist.refl _))))))))))))))))))))⟩
        ·
         rw [hc3, cond_false] at hY1
         refine T.exit ?_
         cases hY1
         cases (hr2 _ rfl)
         exact fun a w' hf hh => Exists.intro x8 (Exists.intro x9 (Exists.intro x10 (Exists.intro x11 (Exists.intro x12 (Exists.intro x13 (And.intro rfl (Exists.intro V6 (And.intro hV6 (And.intro (((((Fr.nil hf).pick hf 9 rfl).pick hf 6 rfl).pick hf 4 rfl).pick hf 3 rfl) (hh.sub (.cons_cons _ (.cons_cons _ (.cons_cons _ (.cons_cons _ (.cons_cons _ (.cons_cons _ (.cons_cons _ (.cons_cons _ (List.Sublist.refl _)))))))))))))))))))
      ·
       rintro a w' ⟨z19, z20, z21, z22, z23, z24, rfl, V7, hV7, hf, hh⟩
       try dsimp only at hS1
       refine (?_ : T 59 w V7 ((box b9 57 [.int .i64 e1.kind, .slice A2 e1.elems.length c2, .slice A3 e1.kids.length c3, .slice A4 e1.seps.length c4, .slice A5 e1.tids.length c5]) :: (box b8 36 [.int .i64 p1.key.pfs, .int .i64 p1.key.obj, .int .i64 p1.key.off, .int .i64 p1.made]) :: (box b7 24 [.int .i64 p0.root, .slice A1 p0.nodes.length c1]) :: (loopo l1 lr1 .ret [(.exit 0)] 0) :: (marko d1) :: (box b4 25 [.int .i64 0]) :: (box b3 39 [.int .i64 z19, .int .i64 z20, .int .i64 z21, .int .i64 z22, .int .i64 z23, .string z24]) :: (box b2 36 [.int .i64 p1.key.pfs, .int .i64 p1.key.obj, .int .i64 p1.key.off, .int .i64 p1.made]) :: G1) [(3, .func (.yield l1) #[] #[]), (4, .pointer (some ⟨b7, 0, none⟩)), (6, .pointer (some ⟨b8, 0, none⟩)), (9, .pointer (some ⟨b9, 0, none⟩))] _) a w' hf hh
       clear hf hh
       refine T.seq ?_
       refine T.seq ?_
       refine T.region ?_
       refine T.pure (.pointer (some ⟨b9, 0, none⟩)) (by kernel_rfl) (fun _ => by kernel_rfl) ?_
       refine T.look (.int .i64 e1.kind) (by kernel_rfl) (fun w' hh => exec_load1 rfl rfl (by kernel_rfl) (hh.cellBox (i := 0) (by rfl) 0)) ?_
       refine T.pure (.bool (e1.kind == 1)) (by kernel_rfl) (fun _ => by kernel_rfl) ?_
       refine T.nil ?_
       refine T.cond (e1.kind == 1) (by kernel_rfl) (by kernel_rfl) (fun hc5 => ?_) (fun hc5 => ?_)
       ·
        rw [hc5, cond_true] at hS1
        refine T.seq ?_
        refine T.region ?_
        refine T.pure (.bool true) (by kernel_rfl) (fun _ => by kernel_rfl) ?_
        refine T.nil ?_
        have hres := Option.some.inj hS1
        subst hres
        refine T.ret rfl ?_
        repeat first | refine T.unthen ?_ | refine T.unblock ?_
        exact T.ret1 rfl (ResIs.tmp rfl) fun w' hh => ⟨_, rfl, Exists.intro 0 (Exists.intro z19 (Exists.intro z20 (Exists.intro z21 (Exists.intro z22 (Exists.intro z23 (Exists.intro z24 (And.intro rfl (Exists.intro V7 (And.intro hV7 (And.intro rfl (hh.sub (.cons _ (.cons _ (.cons _ (.cons_cons _ (.cons_cons _ (.cons_cons _ (.cons_cons _ (.cons_cons _ (List.Sublist.refl _))))))))))))))))))))⟩
       ·
        rw [hc5, cond_false] at hS1
        refine T.skip_code ?_
        refine T.seq ?_
        refine T.seq ?_
        refine T.quiet (by kernel_rfl) (by kernel_rfl) ?_
        refine TQ.pure (.pointer (some ⟨b9, 2, none⟩)) (by kernel_rfl) (fun _ => by kernel_rfl) ?_
        refine TQ.look (.slice A3 e1.kids.length c3) (by kernel_rfl) (fun w' hh => exec_load1 rfl rfl (by kernel_rfl) (hh.cellBox (i := 0) (by rfl) 2)) ?_
        refine TQ.look (.agg #[.int .i64 e1.kind, .slice A2 e1.elems.length c2, .slice A3 e1.kids.length c3, .slice A4 e1.seps.length c4, .slice A5 e1.tids.length c5]) (by kernel_rfl) (fun w' hh => exec_loadN (cs := [.int .i64 e1.kind, .slice A2 e1.elems.length c2, .slice A3 e1.kids.length c3, .slice A4 e1.seps.length c4, .slice A5 e1.tids.length c5]) rfl rfl (by kernel_rfl) (by kernel_rfl) (fun j u hj => (hh.box_at (i := 0) (cs := [.int .i64 e1.kind, .slice A2 e1.elems.length c2, .slice A3 e1.kids.length c3, .slice A4 e1.seps.length c4, .slice A5 e1.tids.length c5]) (by rfl) 0 j).trans (seg_at (n := 5) (by rfl) hj))) ?_
        refine TQ.look (.agg #[.int .i64 p1.key.pfs, .int .i64 p1.key.obj, .int .i64 p1.key.off, .int .i64 p1.made]) (by kernel_rfl) (fun w' hh => exec_loadN (cs := [.int .i64 p1.key.pfs, .int .i64 p1.key.obj, .int .i64 p1.key.off, .int .i64 p1.made]) rfl rfl (by kernel_rfl) (by kernel_rfl) (fun j u hj => (hh.box_at (i := 1) (cs := [.int .i64 p1.key.pfs, .int .i64 p1.key.obj, .int .i64 p1.key.off, .int .i64 p1.made]) (by rfl) 0 j).trans (seg_at (n := 4) (by rfl) hj))) ?_
        obtain ⟨r4, hb6, hS1⟩ := Option.bind_eq_some_iff.1 hS1
        refine TQ.call (vSc eInt) r4 61 #[.agg #[.int .i64 e1.kind, .slice A2 e1.elems.length c2, .slice A3 e1.kids.length c3, .slice A4 e1.seps.length c4, .slice A5 e1.tids.length c5], .agg #[.int .i64 p1.key.pfs, .int .i64 p1.key.obj, .int .i64 p1.key.off, .int .i64 p1.made]] (.int .i64 r4) (fun V u hu => sureInt V u _ hu) (by kernel_rfl) (fun _ => by kernel_rfl) (fun w' hh => node_Way_l F e1 p1 r4 hb6 w' A2 c2 (SlOk.mono (SlOk.mono hs2 hV7) hh.view) A3 c3 (SlOk.mono (SlOk.mono hs3 hV7) hh.view) A4 c4 (SlOk.mono (SlOk.mono hs4 hV7) hh.view) A5 c5 (SlOk.mono (SlOk.mono hs5 hV7) hh.view)) ?_
        obtain ⟨s2, hb7, hS1⟩ := Option.bind_eq_some_iff.1 hS1
        refine TQ.look (.slice (cutA A3 c3 r4.toNat 1) s2.length (c3 - r4.toNat)) (by kernel_rfl) (fun w' hh => exec_slice_list (e := 3) (s := 1) (lx := (some _)) (hx := none) (k := .i64) (k' := .i64) rfl rfl (by kernel_rfl) (by kernel_rfl) ((SlOk.mono hs3 hV7)).1 rfl rfl hb7) ?_
        refine TQ.pure (.int .i64 (s2.length : Int)) (by kernel_rfl) (fun _ => by kernel_rfl) ?_
        refine TQ.pure (.int .i64 0) (by kernel_rfl) (fun _ => by kernel_rfl) ?_
        refine TQ.nil ?_
        obtain ⟨q7, hz3, hS1⟩ := Option.bind_eq_some_iff.1 hS1
        refine T.mid (fun a w' => ∃ (z38 : Int) (z39 : Int) (z40 : Int) (z41 : Int) (z42 : Int) (z43 : ByteArray), q7 = Sum.inl (z38, z39, z40, z41, z42, z43) ∧ ∃ (V14 : View), View.le V7 V14 ∧ Fr 59 [] a ∧ Hp w V14 ((loopo l1 lr1 .ret [(.exit 0)] 0) :: (marko d1) :: (box b4 25 [.int .i64 0]) :: (box b3 39 [.int .i64 z38, .int .i64 z39, .int .i64 z40, .int .i64 z41, .int .i64 z42, .string z43]) :: (box b2 36 [.int .i64 p1.key.pfs, .int .i64 p1.key.obj, .int .i64 p1.key.off, .int .i64 p1.made]) :: G1) w') ?_ ?_
        ·
         refine T.block ?_
         refine T.iter (fun s3 a w' => ∃ (x15 : Int) (x16 : Int) (x17 : Int) (x18 : Int) (x19 : Int) (x20 : ByteArray) (x21 : Int), s3 = (x15, x16, x17, x18, x19, x20, x21) ∧ ∃ (A6 : Option Addr) (c6 : Nat) (V13 : View), View.le V7 V13 ∧ SlOk V13 eInt A6 c6 s2 ∧ Fr 59 [(3, .func (.yield l1) #[] #[]), (4, .pointer (some ⟨b7, 0, none⟩)), (6, .pointer (some ⟨b8, 0, none⟩)), (46, .slice A6 s2.length c6), (47, .int .i64 (s2.length : Int)), (48, .int .i64 x21)] a ∧ Hp w V13 ((box b8 36 [.int .i64 p1.key.pfs, .int .i64 p1.key.obj, .int .i64 p1.key.off, .int .i64 p1.made]) :: (box b7 24 [.int .i64 p0.root, .slice A1 p0.nodes.length c1]) :: (loopo l1 lr1 .ret [(.exit 0)] 0) :: (marko d1) :: (box b4 25 [.int .i64 0]) :: (box b3 39 [.int .i64 x15, .int .i64 x16, .int .i64 x17, .int .i64 x18, .int .i64 x19, .string x20]) :: (box b2 36 [.int .i64 p1.key.pfs, .int .i64 p1.key.obj, .int .i64 p1.key.off, .int .i64 p1.made]) :: G1) w') hz3 ?_ ?_
         ·
          exact fun a w' hf hh => Exists.intro z19 (Exists.intro z20 (Exists.intro z21 (Exists.intro z22 (Exists.intro z23 (Exists.intro z24 (Exists.intro 0 (And.intro rfl (Exists.intro (cutA A3 c3 r4.toNat 1) (Exists.intro (c3 - r4.toNat) (Exists.intro V7 (And.intro (View.le_refl _) (And.intro (SlOk.cut (SlOk.mono hs3 hV7) hb7) (And.intro (((((((Fr.nil hf).pick hf 48 rfl).pick hf 47 rfl).pick hf 46 rfl).pick hf 6 rfl).pick hf 4 rfl).pick hf 3 rfl) (hh.sub (.cons _ (.cons_cons _ (.cons_cons _ (.cons_cons _ (.cons_cons _ (.cons_cons _ (.cons_cons _ (.cons_cons _ (List.Sublist.refl _)))))))))))))))))))))))
         ·
          rintro s3 y2 hY2 hr3 a w' ⟨x15, x16, x17, x18, x19, x20, x21, rfl, A6, c6, V13, hV13, hs6, hf, hh⟩
          refine (?_ : T 59 w V13 ((box b8 36 [.int .i64 p1.key.pfs, .int .i64 p1.key.obj, .int .i64 p1.key.off, .int .i64 p1.made]) :: (box b7 24 [.int .i64 p0.root, .slice A1 p0.nodes.length c1]) :: (loopo l1 lr1 .ret [(.exit 0)] 0) :: (marko d1) :: (box b4 25 [.int .i64 0]) :: (box b3 39 [.int .i64 x15, .int .i64 x16, .int .i64 x17, .int .i64 x18, .int .i64 x19, .string x20]) :: (box b2 36 [.int .i64 p1.key.pfs, .int .i64 p1.key.obj, .int .i64 p1.key.off, .int .i64 p1.made]) :: G1) [(3, .func (.yield l1) #[] #[]), (4, .pointer (some ⟨b7, 0, none⟩)), (6, .pointer (some ⟨b8, 0, none⟩)), (46, .slice A6 s2.length c6), (47, .int .i64 (s2.length : Int)), (48, .int .i64 x21)] _) a w' hf hh
          clear hf hh
          try dsimp only at hY2
          refine T.seq ?_
          refine T.region ?_
          refine T.pure (.bool (decide (x21 < (s2.length : Int)))) (by kernel_rfl) (fun _ => by kernel_rfl) ?_
          refine T.nil ?_
          refine T.seq ?_
          refine T.cond (decide (x21 < (s2.length : Int))) (by kernel_rfl) (by kernel_rfl) (fun hc6 => ?_) (fun hc6 => ?_)
          ·
           rw [hc6, cond_true] at hY2
           refine T.skip_code ?_
           refine T.seq ?_
           refine T.block ?_
           refine T.seq ?_
           refine T.region ?_
           obtain ⟨e3, hb8, hY2⟩ := Option.bind_eq_some_iff.1 hY2
           obtain ⟨hi7, hi8, hi9⟩ := idx_some hb8
           refine T.look (.pointer (some ((sadr A6).add (x21.toNat * 1)))) (by kernel_rfl) (fun w' hh => exec_indexAddr (e := 3) (s := 1) rfl rfl rfl (by kernel_rfl) (by kernel_rfl) hi7 hi8 (hs6.some_ hi9 (by decide))) ?_
           refine T.look (.int .i64 e3) (by kernel_rfl) (fun w' hh => exec_load1 rfl rfl (by kernel_rfl) (hh.cell_view (SlOk.cellF0 (E := eInt) hs6 hi9 (fun _ _ _ h => h) rfl))) ?_
           refine T.pure (.int .i64 e3) (by kernel_rfl) (fun _ => by kernel_rfl) ?_
           refine T.nil ?_
           obtain ⟨q8, hX6, hY2⟩ := Option.bind_eq_some_iff.1 hY2
           refine T.cut (fun a w' => ∃ (k6 : Nat) (z44 : Int) (z45 : Int) (z46 : Int) (z47 : Int) (z48 : Int) (z49 : ByteArray), q8 = (k6, z44, z45, z46, z47, z48, z49) ∧ ∃ (V15 : View), View.le V13 V15 ∧ Fr 59 [(3, .func (.yield l1) #[] #[]), (4, .pointer (some ⟨b7, 0, none⟩)), (6, .pointer (some ⟨b8, 0, none⟩)), (46, .slice A6 s2.length c6), (47, .int .i64 (s2.length : Int)), (48, .int .i64 x21), (57, .bool (!(isz k6)))] a ∧ Hp w V15 ((box b8 36 [.int .i64 p1.key.pfs, .int .i64 p1.key.obj, .int .i64 p1.key.off, .int .i64 p1.made]) :: (box b7 24 [.int .i64 p0.root, .slice A1 p0.nodes.length c1]) :: (loopo l1 lr1 .ret [(.exit 0)] k6) :: (marko d1) :: (box b4 25 [.int .i64 0]) :: (box b3 39 [.int .i64 z44, .int .i64 z45, .int .i64 z46, .int .i64 z47, .int .i64 z48, .string z49]) :: (box b2 36 [.int .i64 p1.key.pfs, .int .i64 p1.key.obj, .int .i64 p1.key.off, .int .i64 p1.made]) :: G1) w') ?_ ?_
           ·
            refine T.region ?_
            refine T.look (.agg #[.int .i64 p0.root, .slice A1 p0.nodes.length c1]) (by kernel_rfl) (fun w' hh => exec_loadN (cs := [.int .i64 p0.root, .slice A1 p0.nodes.length c1]) rfl rfl (by kernel_rfl) (by kernel_rfl) (fun j u hj => (hh.box_at (i := 1) (cs := [.int .i64 p0.root, .slice A1 p0.nodes.length c1]) (by rfl) 0 j).trans (seg_at (n := 2) (by rfl) hj))) ?_
            refine T.pure (.int .i64 e3) (by kernel_rfl) (fun _ => by kernel_rfl) ?_
            refine T.look (.agg #[.int .i64 p1.key.pfs, .int .i64 p1.key.obj, .int .i64 p1.key.off, .int .i64 p1.made]) (by kernel_rfl) (fun w' hh => exec_loadN (cs := [.int .i64 p1.key.pfs, .int .i64 p1.key.obj, .int .i64 p1.key.off, .int .i64 p1.made]) rfl rfl (by kernel_rfl) (by kernel_rfl) (fun j u hj => (hh.box_at (i := 0) (cs := [.int .i64 p1.key.pfs, .int .i64 p1.key.obj, .int .i64 p1.key.off, .int .i64 p1.made]) (by rfl) 0 j).trans (seg_at (n := 4) (by rfl) hj))) ?_
            refine T.pure (.func (.yield l1) #[] #[]) (by kernel_rfl) (fun _ => by kernel_rfl) ?_
            obtain ⟨q9, hz4, hX6⟩ := Option.bind_eq_some_iff.1 hX6
            refine T.step (W1.callI 57 [.agg #[.int .i64 p0.root, .slice A1 p0.nodes.length c1], .int .i64 e3, .agg #[.int .i64 p1.key.pfs, .int .i64 p1.key.obj, .int .i64 p1.key.off, .int .i64 p1.made], .func (.yield l1) #[] #[]] (fun v w' => ∃ (z50 : Nat) (z51 : Int) (z52 : Int) (z53 : Int) (z54 : Int) (z55 : Int) (z56 : ByteArray), q9 = (z50, z51, z52, z53, z54, z55, z56) ∧ ∃ (V16 : View), View.le V13 V16 ∧ v = .bool (isz z50) ∧ Hp w V16 ((loopo l1 lr1 .ret [(.exit 0)] z50) :: (marko d1) :: (box b4 25 [.int .i64 0]) :: (box b3 39 [.int .i64 z51, .int .i64 z52, .int .i64 z53, .int .i64 z54, .int .i64 z55, .string z56]) :: (box b2 36 [.int .i64 p1.key.pfs, .int .i64 p1.key.obj, .int .i64 p1.key.off, .int .i64 p1.made]) :: (box b8 36 [.int .i64 p1.key.pfs, .int .i64 p1.key.obj, .int .i64 p1.key.off, .int .i64 p1.made]) :: (box b7 24 [.int .i64 p0.root, .slice A1 p0.nodes.length c1]) :: G1) w') (by kernel_rfl) (fun _ => by kernel_rfl) (fun w' hh => ih1 _ _ hz4 x15 x16 x17 x18 x19 x20 e3 rfl V13 ((box b8 36 [.int .i64 p1.key.pfs, .int .i64 p1.key.obj, .int .i64 p1.key.off, .int .i64 p1.made]) :: (box b7 24 [.int .i64 p0.root, .slice A1 p0.nodes.length c1]) :: G1) w' (View.le_trans (View.le_trans hV4 hV7) hV13) ((hh.sub (.cons_cons _ (.cons_cons _ (.cons_cons _ (.cons_cons _ (.cons_cons _ (.cons_cons _ (.cons_cons _ (List.Sublist.refl _))))))))).perm (List.Perm.trans (List.Perm.cons _ (List.Perm.swap _ _ _)) (List.Perm.trans (List.Perm.swap _ _ _) (List.Perm.cons _ (List.Perm.trans (List.Perm.cons _ (List.Perm.swap _ _ _)) (List.Perm.trans (List.Perm.swap _ _ _) (List.Perm.cons _ (List.Perm.trans (List.Perm.cons _ (List.Perm.swap _ _ _)) (List.Perm.trans (List.Perm.swap _ _ _) (List.Perm.cons _ (List.Perm.trans (List.Perm.cons _ (List.Perm.swap _ _ _)) (List.Perm.trans (List.Perm.swap _ _ _) (List.Perm.cons _ (List.Perm.trans (List.Perm.cons _ (List.Perm.swap _ _ _)) (List.Perm.trans (List.Perm.swap _ _ _) (List.Perm.refl _))))))))))))))))) ?_)
            rintro v w' ⟨z50, z51, z52, z53, z54, z55, z56, rfl, V16, hV16, rfl, hh⟩
            try dsimp only at hX6
            refine ⟨V16, ((box b8 36 [.int .i64 p1.key.pfs, .int .i64 p1.key.obj, .int .i64 p1.key.off, .int .i64 p1.made]) :: (box b7 24 [.int .i64 p0.root, .slice A1 p0.nodes.length c1]) :: (loopo l1 lr1 .ret [(.exit 0)] z50) :: (marko d1) :: (box b4 25 [.int .i64 0]) :: (box b3 39 [.int .i64 z51, .int .i64 z52, .int .i64 z53, .int .i64 z54, .int .i64 z55, .string z56]) :: (box b2 36 [.int .i64 p1.key.pfs, .int .i64 p1.key.obj, .int .i64 p1.key.off, .int .i64 p1.made]) :: G1), (hh.sub (.cons_cons _ (.cons_cons _ (.cons_cons _ (.cons_cons _ (.cons_cons _ (.cons_cons _ (.cons_cons _ (List.Sublist.refl _))))))))).perm (List.Perm.trans (List.Perm.cons _ (List.Perm.cons _ (List.Perm.cons _ (List.Perm.cons _ (List.Perm.swap _ _ _))))) (List.Perm.trans (List.Perm.cons _ (List.Perm.cons _ (List.Perm.cons _ (List.Perm.swap _ _ _)))) (List.Perm.trans (List.Perm.cons _ (List.Perm.cons _ (List.Perm.swap _ _ _))) (List.Perm.trans (List.Perm.cons _ (List.Perm.swap _ _ _)) (List.Perm.trans (List.Perm.swap _ _ _) (List.Perm.cons _ (List.Perm.trans (List.Perm.cons _ (List.Perm.cons _ (List.Perm.cons _ (List.Perm.cons _ (List.Perm.swap _ _ _))))) (List.Perm.trans (List.Perm.cons _ (List.Perm.cons _ (List.Perm.cons _ (List.Perm.swap _ _ _)))) (List.Perm.trans (List.Perm.cons _ (List.Perm.cons _ (List.Perm.swap _ _ _))) (List.Perm.trans (List.Perm.cons _ (List.Perm.swap _ _ _)) (List.Perm.trans (List.Perm.swap _ _ _) (List.Perm.refl _)))))))))))), ?_⟩
            clear hh
            cases z50 with
            | zero =>
             rw [natCase_zero] at hX6
             refine T.pure (.bool false) (by kernel_rfl) (fun _ => by kernel_rfl) ?_
             refine T.nil ?_
             cases hX6
             exact fun a w' hf hh => Exists.intro 0 (Exists.intro z51 (Exists.intro z52 (Exists.intro z53 (Exists.intro z54 (Exists.intro z55 (Exists.intro z56 (And.intro rfl (Exists.intro V16 (And.intro hV16 (And.intro ((((((((Fr.nil hf).pick hf 57 rfl).pick hf 48 rfl).pick hf 47 rfl).pick hf 46 rfl).pick hf 6 rfl).pick hf 4 rfl).pick hf 3 rfl) (hh.sub (.cons_cons _ (.cons_cons _ (.cons_cons _ (.cons_cons _ (.cons_cons _ (.cons_cons _ (.cons_cons _ (List.Sublist.refl _)))))))))))))))))))
            | succ k7 =>
             rw [natCase_succ] at hX6
             refine T.pure (.bool true) (by kernel_rfl) (fun _ => by kernel_rfl) ?_
             refine T.nil ?_
             cases hX6
             exact fun a w' hf hh => Exists.intro (k7 + 1) (Exists.intro z51 (Exists.intro z52 (Exists.intro z53 (Exists.intro z54 (Exists.intro z55 (Exists.intro z56 (And.intro rfl (Exists.intro V16 (And.intro hV16 (And.intro ((((((((Fr.nil hf).pick hf 57 rfl).pick hf 48 rfl).pick hf 47 rfl).pick hf 46 rfl).pick hf 6 rfl).pick hf 4 rfl).pick hf 3 rfl) (hh.sub (.cons_cons _ (.cons_cons _ (.cons_cons _ (.cons_cons _ (.cons_cons _ (.cons_cons _ (.cons_cons _ (List.Sublist.refl _)))))))))))))))))))
           ·
            rintro a w' ⟨k6, z44, z45, z46, z47, z48, z49, rfl, V15, hV15, hf, hh⟩
            try dsimp only at hY2
            refine (?_ : T 59 w V15 ((box b8 36 [.int .i64 p1.key.pfs, .int .i64 p1.key.obj, .int .i64 p1.key.off, .int .i64 p1.made]) :: (box b7 24 [.int .i64 p0.root, .slice A1 p0.nodes.length c1]) :: (loopo l1 lr1 .ret [(.exit 0)] k6) :: (marko d1) :: (box b4 25 [.int .i64 0]) :: (box b3 39 [.int .i64 z44, .int .i64 z45, .int .i64 z46, .int .i64 z47, .int .i64 z48, .string z49]) :: (box b2 36 [.int .i64 p1.key.pfs, .int .i64 p1.key.obj, .int .i64 p1.key.off, .int .i64 p1.made]) :: G1) [(3, .func (.yield l1) #[] #[]), (4, .pointer (some ⟨b7, 0, none⟩)), (6, .pointer (some ⟨b8, 0, none⟩)), (46, .slice A6 s2.length c6), (47, .int .i64 (s2.length : Int)), (48, .int .i64 x21), (57, .bool (!(isz k6)))] _) a w' hf hh
            clear hf hh
            cases k6 with
            | zero =>
             rw [natCase_zero] at hY2
             refine T.cond false (by kernel_rfl) (by kernel_rfl) (fun h => Bool.noConfusion h) (fun _ => ?_)
             refine T.skip_code ?_
             refine T.region ?_
             refine T.pure (.int .i64 (IntKind.i64.wrap (x21 + 1))) (by kernel_rfl) (fun _ => by kernel_rfl) ?_
             refine T.pure (.int .i64 (IntKind.i64.wrap (x21 + 1))) (by kernel_rfl) (fun _ => by kernel_rfl) ?_
             refine T.nil ?_
             cases hY2
             exact fun a w' hf hh => Exists.intro (z44, z45, z46, z47, z48, z49, IntKind.i64.wrap (x21 + 1)) (And.intro rfl (Exists.intro z44 (Exists.intro z45 (Exists.intro z46 (Exists.intro z47 (Exists.intro z48 (Exists.intro z49 (Exists.intro (IntKind.i64.wrap (x21 + 1)) (And.intro rfl (Exists.intro A6 (Exists.intro c6 (Exists.intro V15 (And.intro (View.le_trans hV13 hV15) (And.intro (SlOk.mono hs6 hV15) (And.intro (((((((Fr.nil hf).pick hf 48 rfl).pick hf 47 rfl).pick hf 46 rfl).pick hf 6 rfl).pick hf 4 rfl).pick hf 3 rfl) (hh.sub (.cons_cons _ (.cons_cons _ (.cons_cons _ (.cons_cons _ (.cons_cons _ (.cons_cons _ (.cons_cons _ (List.Sublist.refl _))))))))))))))))))))))))
            | succ k8 =>
             rw [natCase_succ] at hY2
             refine T.cond true (by kernel_rfl) (by kernel_rfl) (fun _ => ?_) (fun h => Bool.noConfusion h)
             refine T.seq ?_
             refine T.region ?_
             refine T.pure (.bool false) (by kernel_rfl) (fun _ => by kernel_rfl) ?_
             refine T.nil ?_
             cases hY2
             cases (hr3 _ rfl)
             try dsimp only at hS1
             have hres := Option.some.inj hS1
             subst hres
             refine T.ret rfl ?_
             repeat first | refine T.unthen ?_ | refine T.unblock ?_
             exact T.ret1 rfl (ResIs.tmp rfl) fun w' hh => ⟨_, rfl, Exists.intro (k8 + 1) (Exists.intro z44 (Exists.intro z45 (Exists.intro z46 (Exists.intro z47 (Exists.intro z48 (Exists.intro z49 (And.intro rfl (Exists.intro V15 (And.intro (View.le_trans (View.le_trans hV7 hV13) hV15) (And.intro rfl (hh.sub (.cons _ (.cons _ (.cons_cons _ (.cons_cons _ (.cons_cons _ (.cons_cons _ (.cons_cons _ (List.Sublist.refl _)))))))))))))))))))⟩
          ·
           rw [hc6, cond_false] at hY2
           refine T.exit ?_
           cases hY2
           cases (hr3 _ rfl)
           exact fun a w' hf hh => Exists.intro x15 (Exists.intro x16 (Exists.intro x17 (Exists.intro x18 (Exists.intro x19 (Exists.intro x20 (And.intro rfl (Exists.intro V13 (And.intro hV13 (And.intro (Fr.nil hf) (hh.sub (.cons _ (.cons _ (.cons_cons _ (.cons_cons _ (.cons_cons _ (.cons_cons _ (.cons_cons _ (List.Sublist.refl _))))))))))))))))))
        ·
         rintro a w' ⟨z38, z39, z40, z41, z42, z43, rfl, V14, hV14, hf, hh⟩
         try dsimp only at hS1
         refine (?_ : T 59 w V14 ((loopo l1 lr1 .ret [(.exit 0)] 0) :: (marko d1) :: (box b4 25 [.int .i64 0]) :: (box b3 39 [.int .i64 z38, .int .i64 z39, .int .i64 z40, .int .i64 z41, .int .i64 z42, .string z43]) :: (box b2 36 [.int .i64 p1.key.pfs, .int .i64 p1.key.obj, .int .i64 p1.key.off, .int .i64 p1.made]) :: G1) [] _) a w' hf hh
         clear hf hh
         refine T.seq ?_
         refine T.region ?_
         refine T.pure (.bool true) (by kernel_rfl) (fun _ => by kernel_rfl) ?_
         refine T.nil ?_
         have hres := Option.some.inj hS1
         subst hres
         refine T.ret rfl ?_
         repeat first | refine T.unthen ?_ | refine T.unblock ?_
         exact T.ret1 rfl (ResIs.tmp rfl) fun w' hh => ⟨_, rfl, Exists.intro 0 (Exists.intro z38 (Exists.intro z39 (Exists.intro z40 (Exists.intro z41 (Exists.intro z42 (Exists.intro z43 (And.intro rfl (Exists.intro V14 (And.intro (View.le_trans hV7 hV14) (And.intro rfl (hh.sub (.cons_cons _ (.cons_cons _ (.cons_cons _ (.cons_cons _ (.cons_cons _ (List.Sublist.refl _)))))))))))))))))⟩
     ·
      refine T.step (W1.callI 57 [.agg #[.int .i64 p0.root, .slice A1 p0.nodes.length c1], .int .i64 p0.root, .agg #[.int .i64 p1.key.pfs, .int .i64 p1.key.obj, .int .i64 p1.key.off, .int .i64 p1.made], .func (.yield l1) #[] #[]] (fun v w' => ∃ (z57 : Nat) (z58 : Int) (z59 : Int) (z60 : Int) (z61 : Int) (z62 : Int) (z63 : ByteArray), q3 = (z57, z58, z59, z60, z61, z62, z63) ∧ ∃ (V17 : View), View.le V1 V17 ∧ v = .bool (isz z57) ∧ Hp w V17 [loopo l1 lr1 .ret [(.exit 0)] z57, marko d1, box b4 25 [.int .i64 0], box b3 39 [.int .i64 z58, .int .i64 z59, .int .i64 z60, .int .i64 z61, .int .i64 z62, .string z63], box b2 36 [.int .i64 p1.key.pfs, .int .i64 p1.key.obj, .int .i64 p1.key.off, .int .i64 p1.made], box b6 36 [.int .i64 p1.key.pfs, .int .i64 p1.key.obj, .int .i64 p1.key.off, .int .i64 p1.made], box b5 24 [.int .i64 p0.root, .slice A1 p0.nodes.length c1], box b1 24 [.int .i64 p0.root, .slice A1 p0.nodes.length c1]] w') (by kernel_rfl) (fun _ => by kernel_rfl) (fun w' hh => hq1 0 0 0 0 0 (ByteArray.mk #[]) p0.root rfl V1 [box b6 36 [.int .i64 p1.key.pfs, .int .i64 p1.key.obj, .int .i64 p1.key.off, .int .i64 p1.made], box b5 24 [.int .i64 p0.root, .slice A1 p0.nodes.length c1], box b1 24 [.int .i64 p0.root, .slice A1 p0.nodes.length c1]] w' (View.le_refl _) ((hh.sub (.cons_cons _ (.cons_cons _ (.cons_cons _ (.cons_cons _ (.cons_cons _ (.cons_cons _ (.cons_cons _ (.cons_cons _ List.Sublist.slnil))))))))).perm (List.Perm.cons _ (List.Perm.cons _ (List.Perm.trans (List.Perm.cons _ (List.Perm.swap _ _ _)) (List.Perm.trans (List.Perm.swap _ _ _) (List.Perm.cons _ (List.Perm.trans (List.Perm.cons _ (List.Perm.swap _ _ _)) (List.Perm.trans (List.Perm.swap _ _ _) (List.Perm.cons _ (List.Perm.trans (List.Perm.cons _ (List.Perm.swap _ _ _)) (List.Perm.trans (List.Perm.swap _ _ _) (List.Perm.refl _))))))))))))) ?_)
      rintro v w' ⟨z57, z58, z59, z60, z61, z62, z63, rfl, V17, hV17, rfl, hh⟩
      try dsimp only at hX2
      refine ⟨V17, [loopo l1 lr1 .ret [(.exit 0)] z57, marko d1, box b6 36 [.int .i64 p1.key.pfs, .int .i64 p1.key.obj, .int .i64 p1.key.off, .int .i64 p1.made], box b5 24 [.int .i64 p0.root, .slice A1 p0.nodes.length c1], box b4 25 [.int .i64 0], box b3 39 [.int .i64 z58, .int .i64 z59, .int .i64 z60, .int .i64 z61, .int .i64 z62, .string z63], box b2 36 [.int .i64 p1.key.pfs, .int .i64 p1.key.obj, .int .i64 p1.key.off, .int .i64 p1.made], box b1 24 [.int .i64 p0.root, .slice A1 p0.nodes.length c1]], (hh.sub (.cons_cons _ (.cons_cons _ (.cons_cons _ (.cons_cons _ (.cons_cons _ (.cons_cons _ (.cons_cons _ (.cons_cons _ List.Sublist.slnil))))))))).perm (List.Perm.cons _ (List.Perm.cons _ (List.Perm.trans (List.Perm.cons _ (List.Perm.cons _ (List.Perm.swap _ _ _))) (List.Perm.trans (List.Perm.cons _ (List.Perm.swap _ _ _)) (List.Perm.trans (List.Perm.swap _ _ _) (List.Perm.cons _ (List.Perm.trans (List.Perm.cons _ (List.Perm.cons _ (List.Perm.swap _ _ _))) (List.Perm.trans (List.Perm.cons _ (List.Perm.swap _ _ _)) (List.Perm.trans (List.Perm.swap _ _ _) (List.Perm.refl _)))))))))), ?_⟩
      clear hh
      cases z57 with
      | zero =>
       rw [natCase_zero] at hX2
       refine T.nil ?_
       cases hX2
       repeat first | refine T.unthenN ?_ | refine T.unblockN ?_
       exact T.end0 rfl (fun w' hh => ⟨_, rfl, Exists.intro 0 (Exists.intro z58 (Exists.intro z59 (Exists.intro z60 (Exists.intro z61 (Exists.intro z62 (Exists.intro z63 (And.intro rfl (Exists.intro V17 (And.intro hV17 (hh.sub (.cons_cons _ (.cons_cons _ (.cons _ (.cons _ (.cons_cons _ (.cons_cons _ (.cons _ (.cons _ List.Sublist.slnil))))))))))))))))))⟩)
      | succ k9 =>
       rw [natCase_succ] at hX2
       refine T.nil ?_
       cases hX2
       repeat first | refine T.unthenN ?_ | refine T.unblockN ?_
       exact T.end0 rfl (fun w' hh => ⟨_, rfl, Exists.intro (k9 + 1) (Exists.intro z58 (Exists.intro z59 (Exists.intro z60 (Exists.intro z61 (Exists.intro z62 (Exists.intro z63 (And.intro rfl (Exists.intro V17 (And.intro hV17 (hh.sub (.cons_cons _ (.cons_cons _ (.cons _ (.cons _ (.cons_cons _ (.cons_cons _ (.cons _ (.cons _ List.Sublist.slnil))))))))))))))))))⟩)
    ·
     rintro l1 d1 lr1 w' ⟨k1, z7, z8, z9, z10, z11, z12, rfl, V3, hV3, hh⟩
     try dsimp only at hX1
     refine ⟨V3, [marko d1, box b4 25 [.int .i64 0], box b3 39 [.int .i64 z7, .int .i64 z8, .int .i64 z9, .int .i64 z10, .int .i64 z11, .string z12]], k1, hh, ?_⟩
     clear hh
     cases k1 with
     | zero =>
      rw [natCase_zero] at hX1
      rw [natCase_zero]
      cases hX1
      exact fun a w' hf hh => Exists.intro z7 (Exists.intro z8 (Exists.intro z9 (Exists.intro z10 (Exists.intro z11 (Exists.intro z12 (And.intro rfl (Exists.intro d1 (Exists.intro V3 (And.intro hV3 (And.intro (((Fr.nil hf).pick hf 5 rfl).pick hf 4 rfl) (hh.sub (.cons_cons _ (.cons_cons _ (.cons_cons _ List.Sublist.slnil))))))))))))))
     | succ k10 =>
      rw [natCase_succ] at hX1
      rw [natCase_succ]
      cases k10 with
      | zero =>
       rw [natCase_zero] at hX1
       rw [pick_zero]
       cases hX1
       try dsimp only at hF
       cases hF
       refine T.ret rfl ?_
       refine T.leaveM [box b4 25 [.int .i64 0], box b3 39 [.int .i64 z7, .int .i64 z8, .int .i64 z9, .int .i64 z10, .int .i64 z11, .string z12]] [d1] (fun w' hh => hh.sub (.cons_cons _ (.cons_cons _ (.cons_cons _ List.Sublist.slnil)))) ?_
       exact T.ret2 rfl (ResIs.cellN 1 rfl (by rfl) (fun _ => by kernel_rfl) (fun _ => by kernel_rfl)) (ResIs.cell1 0 rfl (by rfl) (fun _ => by kernel_rfl)) fun w' hh => ⟨_, rfl, hh.below, (vT2.mk (vAg.mk rfl) (show _ from rfl))⟩
      | succ k11 =>
       rw [natCase_succ] at hX1
       rw [pick_succ]
       rw [pick_nil]
       refine T.exit ?_
       cases hX1
       exact fun a w' hf hh => Exists.intro z7 (Exists.intro z8 (Exists.intro z9 (Exists.intro z10 (Exists.intro z11 (Exists.intro z12 (And.intro rfl (Exists.intro d1 (Exists.intro V3 (And.intro hV3 (And.intro (((Fr.nil hf).pick hf 5 rfl).pick hf 4 rfl) (hh.sub (.cons_cons _ (.cons_cons _ (.cons_cons _ List.Sublist.slnil))))))))))))))
  ·
   rintro a w' ⟨z1, z2, z3, z4, z5, z6, rfl, d1, V2, hV2, hf, hh⟩
   try dsimp only at hF
   refine (?_ : T ⟨24, [d1]⟩ w V2 [marko d1, box b4 25 [.int .i64 0], box b3 39 [.int .i64 z1, .int .i64 z2, .int .i64 z3, .int .i64 z4, .int .i64 z5, .string z6]] [(4, .pointer (some ⟨b3, 0, none⟩)), (5, .pointer (some ⟨b4, 0, none⟩))] _) a w' hf hh
   clear hf hh
   refine T.seq ?_
   refine T.region ?_
   refine T.pure (.agg #[.int .i64 0, .int .i64 0, .int .i64 0, .int .i64 0, .int .i64 0, .string (ByteArray.mk #[])]) (by kernel_rfl) (fun _ => by kernel_rfl) ?_
   refine T.step (W1.store 2 [.int .i64 0, .int .i64 0, .int .i64 0, .int .i64 0, .int .i64 0, .string (ByteArray.mk #[])] [marko d1, box b4 25 [.int .i64 0], box b3 39 [.int .i64 0, .int .i64 0, .int .i64 0, .int .i64 0, .int .i64 0, .string (ByteArray.mk #[])]] (by rfl) rfl (by kernel_rfl) (fun w' hw => exec_store (vs := [.int .i64 0, .int .i64 0, .int .i64 0, .int .i64 0, .int .i64 0, .string (ByteArray.mk #[])]) rfl rfl rfl rfl (by kernel_rfl) (one_of rfl) (by simp) rfl hw) ?_)
   refine T.step (W1.store 1 [.int .i64 4] [marko d1, box b4 25 [.int .i64 4], box b3 39 [.int .i64 0, .int .i64 0, .int .i64 0, .int .i64 0, .int .i64 0, .string (ByteArray.mk #[])]] (by rfl) rfl (by kernel_rfl) (fun w' hw => exec_store (vs := [.int .i64 4]) rfl rfl rfl rfl (by kernel_rfl) (one_of rfl) (by simp) rfl hw) ?_)
   refine T.nil ?_
   cases hF
   refine T.ret rfl ?_
   refine T.leaveM [box b4 25 [.int .i64 4], box b3 39 [.int .i64 0, .int .i64 0, .int .i64 0, .int .i64 0, .int .i64 0, .string (ByteArray.mk #[])]] [d1] (fun w' hh => hh.sub (.cons_cons _ (.cons_cons _ (.cons_cons _ List.Sublist.slnil)))) ?_
   exact T.ret2 rfl (ResIs.cellN 1 rfl (by rfl) (fun _ => by kernel_rfl) (fun _ => by kernel_rfl)) (ResIs.cell1 0 rfl (by rfl) (fun _ => by kernel_rfl)) fun w' hh => ⟨_, rfl, hh.below, (vT2.mk (vAg.mk rfl) (show _ from rfl))⟩

end Go.Proofs.Ytoaopihihccfkaa
