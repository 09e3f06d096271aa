/- The Go functions of group PastR compute the pure functions of that group: written by walkgen.py. Condition of each: the pure function yields a result. -/
import Derived.Test.YtoaopihihccfkaaPastCL
import Derived.Test.YtoaopihihccfkaaRange
import Derived.Test.YtoaopihihccfkaaClear
import Derived.Test.YtoaopihihccfkaaPastRF
import Derived.Test.YtoaopihihccfkaaEqL
namespace Go.Proofs.Ytoaopihihccfkaa
abbrev cEPastRL (x : DElem) : List Value := [.int .i64 x.key.pfs, .int .i64 x.key.obj, .int .i64 x.key.off, .int .i64 x.made, .int .i64 x.gone, .string x.val]
abbrev cKPastRL (x : DKey) : List Value := [.int .i64 x.pfs, .int .i64 x.obj, .int .i64 x.off]
abbrev cNPastRL (x : DNode) (A : Option Addr) (a : Nat) (B : Option Addr) (b : Nat) (C : Option Addr) (c : Nat) (D : Option Addr) (d : Nat) : List Value := [.int .i64 x.kind, .slice A x.elems.length a, .slice B x.kids.length b, .slice C x.seps.length c, .slice D x.tids.length d]
set_option linter.unusedVariables false

set_option maxRecDepth 100000 in
set_option maxHeartbeats 4000000 in
theorem past_Range_l (F : Nat) (p0 : DTree) (p1 : DKey) (p2 : DKey) (p3 : Int) (r : ((List DElem)) × Int) (hF : past_Range F p0 p1 p2 p3 = some r) (w : World) (A1 : Option Addr) (c1 : Nat) (hs1 : SlOk (vw w) eNode A1 c1 p0.nodes) :
    Calls Try.prog 34 #[.agg #[.int .i64 p0.root, .slice A1 p0.nodes.length c1], .agg #[.int .i64 p1.pfs, .int .i64 p1.obj, .int .i64 p1.off], .agg #[.int .i64 p2.pfs, .int .i64 p2.obj, .int .i64 p2.off], .int .i64 p3] w (Post (vT2 (vSc (eList eElem)) (vSc eInt)) r w) := by
 unfold past_Range at hF
 refine T.startM (l := [.agg #[.int .i64 p0.root, .slice A1 p0.nodes.length c1], .agg #[.int .i64 p1.pfs, .int .i64 p1.obj, .int .i64 p1.off], .agg #[.int .i64 p2.pfs, .int .i64 p2.obj, .int .i64 p2.off], .int .i64 p3]) Try.func34 rfl rfl rfl ?_
 refine T.seq ?_
 refine T.region ?_
 refine T.step (W1.new 24 [.int .i64 p0.root, .slice A1 p0.nodes.length c1] (fun b => .pointer (some ⟨b, 0, none⟩)) (by kernel_rfl) (fun _ => by kernel_rfl) (fun b1 => ?_))
 refine T.step (W1.new 34 (cKPastRL p1) (fun b => .pointer (some ⟨b, 0, none⟩)) (by kernel_rfl) (fun _ => by kernel_rfl) (fun b2 => ?_))
 refine T.step (W1.new 34 (cKPastRL p2) (fun b => .pointer (some ⟨b, 0, none⟩)) (by kernel_rfl) (fun _ => by kernel_rfl) (fun b3 => ?_))
 refine T.step (W1.new 3 [.int .i64 p3] (fun b => .pointer (some ⟨b, 0, none⟩)) (by kernel_rfl) (fun _ => by kernel_rfl) (fun b4 => ?_))
 refine T.pure (.slice none 0 0) (by kernel_rfl) (fun _ => by kernel_rfl) ?_
 refine T.pure (.int .i64 0) (by kernel_rfl) (fun _ => by kernel_rfl) ?_
 refine T.nil ?_
 refine T.seq ?_
 refine T.seq ?_
 refine T.region ?_
 refine T.look (.agg #[.int .i64 p0.root, .slice A1 p0.nodes.length c1]) (by kernel_rfl) (fun w' hh => exec_loadN (cs := [.int .i64 p0.root, .slice A1 p0.nodes.length c1]) rfl rfl (by kernel_rfl) (by kernel_rfl) (fun j u hj => (hh.box_at (i := 3) (cs := [.int .i64 p0.root, .slice A1 p0.nodes.length c1]) (by rfl) 0 j).trans (seg_at (n := 2) (by rfl) hj))) ?_
 obtain ⟨r1, hb1, hF⟩ := Option.bind_eq_some_iff.1 hF
 refine T.step (W1.call (vSc eInt) r1 31 #[.agg #[.int .i64 p0.root, .slice A1 p0.nodes.length c1]] (by kernel_rfl) (fun _ => by kernel_rfl) (fun w' hh => past_Check_l F p0 r1 hb1 w' A1 c1 (SlOk.mono hs1 hh.view)) ?_)
 intro u V1 hV1 hu
 obtain rfl := sureInt _ _ _ hu
 refine T.pure (.int .i64 r1) (by kernel_rfl) (fun _ => by kernel_rfl) ?_
 refine T.nil ?_
 refine T.seq ?_
 refine T.region ?_
 refine T.pure (.int .i64 r1) (by kernel_rfl) (fun _ => by kernel_rfl) ?_
 refine T.pure (.bool (r1 != 0)) (by kernel_rfl) (fun _ => by kernel_rfl) ?_
 refine T.nil ?_
 refine T.cond (r1 != 0) (by kernel_rfl) (by kernel_rfl) (fun hc1 => ?_) (fun hc1 => ?_)
 ·
  rw [hc1, cond_true] at hF
  refine T.seq ?_
  refine T.region ?_
  refine T.pure (.int .i64 r1) (by kernel_rfl) (fun _ => by kernel_rfl) ?_
  refine T.pure (.slice none 0 0) (by kernel_rfl) (fun _ => by kernel_rfl) ?_
  refine T.pure (.int .i64 r1) (by kernel_rfl) (fun _ => by kernel_rfl) ?_
  refine T.nil ?_
  cases hF
  refine T.ret rfl ?_
  refine T.leaveM [box b4 3 [.int .i64 p3], box b3 34 (cKPastRL p2), box b2 34 (cKPastRL p1), box b1 24 [.int .i64 p0.root, .slice A1 p0.nodes.length c1]] [] (fun w' hh => hh.sub (.cons_cons _ (.cons_cons _ (.cons_cons _ (.cons_cons _ List.Sublist.slnil))))) ?_
  exact T.ret2 rfl (ResIs.tmp rfl) (ResIs.tmp rfl) fun w' hh => ⟨_, rfl, hh.below, (vT2.mk ⟨_, _, rfl, (SlOk.nil _ _)⟩ (show _ from rfl))⟩
 ·
  rw [hc1, cond_false] at hF
  refine T.skip_code ?_
  refine T.seq ?_
  refine T.seq ?_
  refine T.region ?_
  refine T.look (.agg #[.int .i64 p1.pfs, .int .i64 p1.obj, .int .i64 p1.off]) (by kernel_rfl) (fun w' hh => exec_loadN (cs := (cKPastRL p1)) rfl rfl (by kernel_rfl) (by kernel_rfl) (fun j u hj => (hh.box_at (i := 2) (cs := (cKPastRL p1)) (by rfl) 0 j).trans (seg_at (n := 3) (by rfl) hj))) ?_
  obtain ⟨r2, hb2, hF⟩ := Option.bind_eq_some_iff.1 hF
  refine T.step (W1.call (vSc eInt) r2 50 #[.agg #[.int .i64 p1.pfs, .int .i64 p1.obj, .int .i64 p1.off]] (by kernel_rfl) (fun _ => by kernel_rfl) (fun w' hh => key_Check_l p1 r2 hb2 w' ) ?_)
  intro u V2 hV2 hu
  obtain rfl := sureInt _ _ _ hu
  refine T.pure (.int .i64 r2) (by kernel_rfl) (fun _ => by kernel_rfl) ?_
  refine T.nil ?_
  refine T.seq ?_
  refine T.region ?_
  refine T.pure (.int .i64 r2) (by kernel_rfl) (fun _ => by kernel_rfl) ?_
  refine T.pure (.bool (r2 != 0)) (by kernel_rfl) (fun _ => by kernel_rfl) ?_
  refine T.nil ?_
  refine T.cond (r2 != 0) (by kernel_rfl) (by kernel_rfl) (fun hc2 => ?_) (fun hc2 => ?_)
  ·
   rw [hc2, cond_true] at hF
   refine T.seq ?_
   refine T.region ?_
   refine T.pure (.int .i64 r2) (by kernel_rfl) (fun _ => by kernel_rfl) ?_
   refine T.pure (.slice none 0 0) (by kernel_rfl) (fun _ => by kernel_rfl) ?_
   refine T.pure (.int .i64 r2) (by kernel_rfl) (fun _ => by kernel_rfl) ?_
   refine T.nil ?_
   cases hF
   refine T.ret rfl ?_
   refine T.leaveM [box b4 3 [.int .i64 p3], box b3 34 (cKPastRL p2), box b2 34 (cKPastRL p1), box b1 24 [.int .i64 p0.root, .slice A1 p0.nodes.length c1]] [] (fun w' hh => hh.sub (.cons_cons _ (.cons_cons _ (.cons_cons _ (.cons_cons _ List.Sublist.slnil))))) ?_
   exact T.ret2 rfl (ResIs.tmp rfl) (ResIs.tmp rfl) fun w' hh => ⟨_, rfl, hh.below, (vT2.mk ⟨_, _, rfl, (SlOk.nil _ _)⟩ (show _ from rfl))⟩
  ·
   rw [hc2, cond_false] at hF
   refine T.skip_code ?_
   refine T.seq ?_
   refine T.seq ?_
   refine T.region ?_
   refine T.look (.agg #[.int .i64 p2.pfs, .int .i64 p2.obj, .int .i64 p2.off]) (by kernel_rfl) (fun w' hh => exec_loadN (cs := (cKPastRL p2)) rfl rfl (by kernel_rfl) (by kernel_rfl) (fun j u hj => (hh.box_at (i := 1) (cs := (cKPastRL p2)) (by rfl) 0 j).trans (seg_at (n := 3) (by rfl) hj))) ?_
   obtain ⟨r3, hb3, hF⟩ := Option.bind_eq_some_iff.1 hF
   refine T.step (W1.call (vSc eInt) r3 50 #[.agg #[.int .i64 p2.pfs, .int .i64 p2.obj, .int .i64 p2.off]] (by kernel_rfl) (fun _ => by kernel_rfl) (fun w' hh => key_Check_l p2 r3 hb3 w' ) ?_)
   intro u V3 hV3 hu
   obtain rfl := sureInt _ _ _ hu
   refine T.pure (.int .i64 r3) (by kernel_rfl) (fun _ => by kernel_rfl) ?_
   refine T.nil ?_
   refine T.seq ?_
   refine T.region ?_
   refine T.pure (.int .i64 r3) (by kernel_rfl) (fun _ => by kernel_rfl) ?_
   refine T.pure (.bool (r3 != 0)) (by kernel_rfl) (fun _ => by kernel_rfl) ?_
   refine T.nil ?_
   refine T.cond (r3 != 0) (by kernel_rfl) (by kernel_rfl) (fun hc3 => ?_) (fun hc3 => ?_)
   ·
    rw [hc3, cond_true] at hF
    refine T.seq ?_
    refine T.region ?_
    refine T.pure (.int .i64 r3) (by kernel_rfl) (fun _ => by kernel_rfl) ?_
    refine T.pure (.slice none 0 0) (by kernel_rfl) (fun _ => by kernel_rfl) ?_
    refine T.pure (.int .i64 r3) (by kernel_rfl) (fun _ => by kernel_rfl) ?_
    refine T.nil ?_
    cases hF
    refine T.ret rfl ?_
    refine T.leaveM [box b4 3 [.int .i64 p3], box b3 34 (cKPastRL p2), box b2 34 (cKPastRL p1), box b1 24 [.int .i64 p0.root, .slice A1 p0.nodes.length c1]] [] (fun w' hh => hh.sub (.cons_cons _ (.cons_cons _ (.cons_cons _ (.cons_cons _ List.Sublist.slnil))))) ?_
    exact T.ret2 rfl (ResIs.tmp rfl) (ResIs.tmp rfl) fun w' hh => ⟨_, rfl, hh.below, (vT2.mk ⟨_, _, rfl, (SlOk.nil _ _)⟩ (show _ from rfl))⟩
   ·
    rw [hc3, cond_false] at hF
    refine T.skip_code ?_
    refine T.seq ?_
    refine T.region ?_
    refine T.step (W1.new 29 [.slice none 0 0] (fun b => .pointer (some ⟨b, 0, none⟩)) (by kernel_rfl) (fun _ => by kernel_rfl) (fun b5 => ?_))
    refine T.nil ?_
    obtain ⟨z1, hX1, hF⟩ := Option.bind_eq_some_iff.1 hF
    refine T.cut (fun a w' => ∃ (A2 : Option Addr) (c2 : Nat) (d1 : Nat) (V4 : View), View.le V3 V4 ∧ Fr ⟨48, [d1]⟩ [(13, .pointer (some ⟨b5, 0, none⟩))] a ∧ Hp w V4 [row 39 eElem A2 c2 z1, marko d1, box b5 29 [.slice A2 z1.length c2]] w') ?_ ?_
    ·
     refine T.seq ?_
     refine T.region ?_
     refine T.look (.agg #[.int .i64 p0.root, .slice A1 p0.nodes.length c1]) (by kernel_rfl) (fun w' hh => exec_loadN (cs := [.int .i64 p0.root, .slice A1 p0.nodes.length c1]) rfl rfl (by kernel_rfl) (by kernel_rfl) (fun j u hj => (hh.box_at (i := 4) (cs := [.int .i64 p0.root, .slice A1 p0.nodes.length c1]) (by rfl) 0 j).trans (seg_at (n := 2) (by rfl) hj))) ?_
     refine T.look (.agg #[.int .i64 p1.pfs, .int .i64 p1.obj, .int .i64 p1.off]) (by kernel_rfl) (fun w' hh => exec_loadN (cs := (cKPastRL p1)) rfl rfl (by kernel_rfl) (by kernel_rfl) (fun j u hj => (hh.box_at (i := 3) (cs := (cKPastRL p1)) (by rfl) 0 j).trans (seg_at (n := 3) (by rfl) hj))) ?_
     refine T.pure (.agg #[.int .i64 p1.pfs, .int .i64 p1.obj, .int .i64 p1.off, .int .i64 0]) (by kernel_rfl) (fun _ => by kernel_rfl) ?_
     refine T.step (W1.within 44 [.agg #[.int .i64 p0.root, .slice A1 p0.nodes.length c1], .agg #[.int .i64 p1.pfs, .int .i64 p1.obj, .int .i64 p1.off, .int .i64 0]] (fun v w' => ∃ (b7 : Nat) (b6 : Nat), v = .func (.func 56) #[] #[.pointer (some ⟨b6, 0, none⟩), .pointer (some ⟨b7, 0, none⟩)] ∧ Hp w V3 [box b7 36 [.int .i64 p1.pfs, .int .i64 p1.obj, .int .i64 p1.off, .int .i64 0], box b6 24 [.int .i64 p0.root, .slice A1 p0.nodes.length c1], box b5 29 [.slice none 0 0], box b4 3 [.int .i64 p3], box b3 34 (cKPastRL p2), box b2 34 (cKPastRL p1), box b1 24 [.int .i64 p0.root, .slice A1 p0.nodes.length c1]] w') Try.func44 rfl rfl (by kernel_rfl) (fun _ => by kernel_rfl) rfl ?_ ?_)
     ·
      refine T.seq ?_
      refine T.region ?_
      refine T.step (W1.new 24 [.int .i64 p0.root, .slice A1 p0.nodes.length c1] (fun b => .pointer (some ⟨b, 0, none⟩)) (by kernel_rfl) (fun _ => by kernel_rfl) (fun b6 => ?_))
      refine T.step (W1.new 36 [.int .i64 p1.pfs, .int .i64 p1.obj, .int .i64 p1.off, .int .i64 0] (fun b => .pointer (some ⟨b, 0, none⟩)) (by kernel_rfl) (fun _ => by kernel_rfl) (fun b7 => ?_))
      refine T.pure (.nilFunc) (by kernel_rfl) (fun _ => by kernel_rfl) ?_
      refine T.nil ?_
      refine T.seq ?_
      refine T.region ?_
      refine T.pure (.func (.func 56) #[] #[.pointer (some ⟨b6, 0, none⟩), .pointer (some ⟨b7, 0, none⟩)]) (by kernel_rfl) (fun _ => by kernel_rfl) ?_
      refine T.pure (.func (.func 56) #[] #[.pointer (some ⟨b6, 0, none⟩), .pointer (some ⟨b7, 0, none⟩)]) (by kernel_rfl) (fun _ => by kernel_rfl) ?_
      refine T.nil ?_
      refine T.ret rfl ?_
      exact T.ret1 rfl (ResIs.tmp rfl) fun w' hh => ⟨_, rfl, Exists.intro b7 (Exists.intro b6 (And.intro rfl (hh.sub (.cons_cons _ (.cons_cons _ (.cons_cons _ (.cons_cons _ (.cons_cons _ (.cons_cons _ (.cons_cons _ List.Sublist.slnil))))))))))⟩
     ·
      rintro v w' ⟨b7, b6, rfl, hh⟩
      refine ⟨V3, [box b7 36 [.int .i64 p1.pfs, .int .i64 p1.obj, .int .i64 p1.off, .int .i64 0], box b6 24 [.int .i64 p0.root, .slice A1 p0.nodes.length c1], box b5 29 [.slice none 0 0], box b4 3 [.int .i64 p3], box b3 34 (cKPastRL p2), box b2 34 (cKPastRL p1), box b1 24 [.int .i64 p0.root, .slice A1 p0.nodes.length c1]], hh, ?_⟩
      clear hh
      refine T.nil ?_
      refine T.block ?_
      obtain ⟨q1, hX2, hX1⟩ := Option.bind_eq_some_iff.1 hX1
      refine T.range (gf := 56) (lb := [.pointer (some ⟨b6, 0, none⟩), .pointer (some ⟨b7, 0, none⟩)]) (.exit 0) [] (fun l1 d1 lr1 w' => ∃ (z2 : List DElem) (k1 : Nat), q1 = (z2, k1) ∧ ∃ (A3 : Option Addr) (c3 : Nat) (V5 : View), View.le V3 V5 ∧ Hp w V5 [loopo l1 lr1 (.exit 0) [] k1, row 39 eElem A3 c3 z2, marko d1, box b5 29 [.slice A3 z2.length c3]] w') (by kernel_rfl) (by kernel_rfl) (fun _ _ => by kernel_rfl) ?_ ?_
      ·
       intro l1 d1 lr1 hl1 hl2 hl3 hl4 w1 hh
       refine T.startI (l := [.func (.yield l1) #[] #[], .pointer (some ⟨b6, 0, none⟩), .pointer (some ⟨b7, 0, none⟩)]) Try.func56 rfl rfl rfl ?_ hh
       clear hh
       refine T.region ?_
       refine T.look (.agg #[.int .i64 p0.root, .slice A1 p0.nodes.length c1]) (by kernel_rfl) (fun w' hh => exec_loadN (cs := [.int .i64 p0.root, .slice A1 p0.nodes.length c1]) rfl rfl (by kernel_rfl) (by kernel_rfl) (fun j u hj => (hh.box_at (i := 3) (cs := [.int .i64 p0.root, .slice A1 p0.nodes.length c1]) (by rfl) 0 j).trans (seg_at (n := 2) (by rfl) hj))) ?_
       refine T.pure (.pointer (some ⟨b6, 0, none⟩)) (by kernel_rfl) (fun _ => by kernel_rfl) ?_
       refine T.look (.int .i64 p0.root) (by kernel_rfl) (fun w' hh => exec_load1 rfl rfl (by kernel_rfl) (hh.cellBox (i := 3) (by rfl) 0)) ?_
       refine T.look (.agg #[.int .i64 p1.pfs, .int .i64 p1.obj, .int .i64 p1.off, .int .i64 0]) (by kernel_rfl) (fun w' hh => exec_loadN (cs := [.int .i64 p1.pfs, .int .i64 p1.obj, .int .i64 p1.off, .int .i64 0]) rfl rfl (by kernel_rfl) (by kernel_rfl) (fun j u hj => (hh.box_at (i := 2) (cs := [.int .i64 p1.pfs, .int .i64 p1.obj, .int .i64 p1.off, .int .i64 0]) (by rfl) 0 j).trans (seg_at (n := 4) (by rfl) hj))) ?_
       refine T.pure (.func (.yield l1) #[] #[]) (by kernel_rfl) (fun _ => by kernel_rfl) ?_
       refine T.rownil 39 eElem ?_
       obtain ⟨q2, hz1, hX2⟩ := Option.bind_eq_some_iff.1 hX2
       refine (have hq1 := fix_rec (fun (s_ : (List DElem) × Int) (r_ : (List DElem) × Nat) => ∀ (x1 : List DElem) (x2 : Int), s_ = (x1, x2) → ∀ (A4 : Option Addr) (c4 : Nat) (V6 : View) (G2 : List HObj) (w1 : World), View.le V3 V6 → Hp w V6 ((row 39 eElem A4 c4 x1) :: (loopo l1 lr1 (.exit 0) [] 0) :: (marko d1) :: (box b5 29 [.slice A4 x1.length c4]) :: (box b4 3 [.int .i64 p3]) :: (box b3 34 (cKPastRL p2)) :: G2) w1 → Calls Try.prog 57 #[.agg #[.int .i64 p0.root, .slice A1 p0.nodes.length c1], .int .i64 x2, .agg #[.int .i64 p1.pfs, .int .i64 p1.obj, .int .i64 p1.off, .int .i64 0], .func (.yield l1) #[] #[]] w1 (fun e w2 => ∃ v, e = .returned v ∧ ∃ (z3 : List DElem) (k2 : Nat), r_ = (z3, k2) ∧ ∃ (A5 : Option Addr) (c5 : Nat) (V7 : View), View.le V6 V7 ∧ v = .bool (isz k2) ∧ Hp w V7 ((row 39 eElem A5 c5 z3) :: (loopo l1 lr1 (.exit 0) [] k2) :: (marko d1) :: (box b5 29 [.slice A5 z3.length c5]) :: (box b4 3 [.int .i64 p3]) :: (box b3 34 (cKPastRL p2)) :: G2) w2)) hz1 ?_; ?_)
       ·
        rintro rf2 ih1 s_ r_ hS1 x1 x2 rfl A4 c4 V6 G2 w1 hV6 hh
        try dsimp only at hS1
        refine T.startI (l := [.agg #[.int .i64 p0.root, .slice A1 p0.nodes.length c1], .int .i64 x2, .agg #[.int .i64 p1.pfs, .int .i64 p1.obj, .int .i64 p1.off, .int .i64 0], .func (.yield l1) #[] #[]]) Try.func57 rfl rfl rfl ?_ hh
        clear hh
        refine T.seq ?_
        refine T.region ?_
        refine T.step (W1.new 24 [.int .i64 p0.root, .slice A1 p0.nodes.length c1] (fun b => .pointer (some ⟨b, 0, none⟩)) (by kernel_rfl) (fun _ => by kernel_rfl) (fun b8 => ?_))
        refine T.step (W1.new 36 [.int .i64 p1.pfs, .int .i64 p1.obj, .int .i64 p1.off, .int .i64 0] (fun b => .pointer (some ⟨b, 0, none⟩)) (by kernel_rfl) (fun _ => by kernel_rfl) (fun b9 => ?_))
        refine T.pure (.bool false) (by kernel_rfl) (fun _ => by kernel_rfl) ?_
        refine T.nil ?_
        refine T.seq ?_
        refine T.region ?_
        refine T.pure (.pointer (some ⟨b8, 1, none⟩)) (by kernel_rfl) (fun _ => by kernel_rfl) ?_
        refine T.look (.slice A1 p0.nodes.length c1) (by kernel_rfl) (fun w' hh => exec_load1 rfl rfl (by kernel_rfl) (hh.cellBox (i := 1) (by rfl) 1)) ?_
        refine T.pure (.int .i64 x2) (by kernel_rfl) (fun _ => by kernel_rfl) ?_
        obtain ⟨e1, hb4, hS1⟩ := Option.bind_eq_some_iff.1 hS1
        obtain ⟨hi1, hi2, hi3⟩ := idx_some hb4
        obtain ⟨cs1, hr1, hc4⟩ := SlOk.elem (SlOk.mono hs1 (View.le_trans (View.le_trans (View.le_trans hV1 hV2) hV3) hV6)) hi3
        obtain ⟨A6, c6, A7, c7, A8, c8, A9, c9, rfl, hs2, hs3, hs4, hs5⟩ := hr1
        refine T.look (.pointer (some ((sadr A1).add (x2.toNat * 5)))) (by kernel_rfl) (fun w' hh => exec_indexAddr (e := 57) (s := 5) rfl rfl rfl (by kernel_rfl) (by kernel_rfl) hi1 hi2 ((SlOk.mono hs1 (View.le_trans (View.le_trans (View.le_trans hV1 hV2) hV3) hV6)).some_ hi3 (by decide))) ?_
        refine T.look (.agg #[.int .i64 e1.kind, .slice A6 e1.elems.length c6, .slice A7 e1.kids.length c7, .slice A8 e1.seps.length c8, .slice A9 e1.tids.length c9]) (by kernel_rfl) (fun w' hh => exec_loadN (cs := (cNPastRL e1 A6 c6 A7 c7 A8 c8 A9 c9)) rfl rfl (by kernel_rfl) (by kernel_rfl) (fun j u hj => hh.cell_view (View.cell_mono (View.le_refl _) (hc4 j u hj).2))) ?_
        refine T.step (W1.new 57 [.int .i64 0, .slice none 0 0, .slice none 0 0, .slice none 0 0, .slice none 0 0] (fun b => .pointer (some ⟨b, 0, none⟩)) (by kernel_rfl) (fun _ => by kernel_rfl) (fun b10 => ?_))
        refine T.step (W1.store 0 (cNPastRL e1 A6 c6 A7 c7 A8 c8 A9 c9) ((box b10 57 (cNPastRL e1 A6 c6 A7 c7 A8 c8 A9 c9)) :: (box b9 36 [.int .i64 p1.pfs, .int .i64 p1.obj, .int .i64 p1.off, .int .i64 0]) :: (box b8 24 [.int .i64 p0.root, .slice A1 p0.nodes.length c1]) :: (row 39 eElem A4 c4 x1) :: (loopo l1 lr1 (.exit 0) [] 0) :: (marko d1) :: (box b5 29 [.slice A4 x1.length c4]) :: (box b4 3 [.int .i64 p3]) :: (box b3 34 (cKPastRL p2)) :: G2) (by rfl) rfl (by kernel_rfl) (fun w' hw => exec_store (vs := (cNPastRL e1 A6 c6 A7 c7 A8 c8 A9 c9)) rfl rfl rfl rfl (by kernel_rfl) (one_of rfl) (by simp) rfl hw) ?_)
        refine T.nil ?_
        refine T.seq ?_
        refine T.seq ?_
        refine T.region ?_
        refine T.pure (.pointer (some ⟨b10, 1, none⟩)) (by kernel_rfl) (fun _ => by kernel_rfl) ?_
        refine T.look (.slice A6 e1.elems.length c6) (by kernel_rfl) (fun w' hh => exec_load1 rfl rfl (by kernel_rfl) (hh.cellBox (i := 0) (by rfl) 1)) ?_
        refine T.pure (.int .i64 (e1.elems.length : Int)) (by kernel_rfl) (fun _ => by kernel_rfl) ?_
        refine T.pure (.int .i64 0) (by kernel_rfl) (fun _ => by kernel_rfl) ?_
        refine T.nil ?_
        obtain ⟨q3, hz2, hS1⟩ := Option.bind_eq_some_iff.1 hS1
        refine T.mid (fun a w' => ∃ (z4 : List DElem), q3 = Sum.inl z4 ∧ ∃ (A11 : Option Addr) (c11 : Nat) (V9 : View), View.le V6 V9 ∧ Fr 59 [(3, .func (.yield l1) #[] #[]), (4, .pointer (some ⟨b8, 0, none⟩)), (6, .pointer (some ⟨b9, 0, none⟩)), (9, .pointer (some ⟨b10, 0, none⟩))] a ∧ Hp w V9 ((box b10 57 (cNPastRL e1 A6 c6 A7 c7 A8 c8 A9 c9)) :: (box b9 36 [.int .i64 p1.pfs, .int .i64 p1.obj, .int .i64 p1.off, .int .i64 0]) :: (box b8 24 [.int .i64 p0.root, .slice A1 p0.nodes.length c1]) :: (row 39 eElem A11 c11 z4) :: (loopo l1 lr1 (.exit 0) [] 0) :: (marko d1) :: (box b5 29 [.slice A11 z4.length c11]) :: (box b4 3 [.int .i64 p3]) :: (box b3 34 (cKPastRL p2)) :: G2) w') ?_ ?_
        ·
         refine T.block ?_
         refine T.iter (fun s1 a w' => ∃ (x3 : List DElem) (x4 : Int), s1 = (x3, x4) ∧ ∃ (A10 : Option Addr) (c10 : Nat) (V8 : View), View.le V6 V8 ∧ Fr 59 [(3, .func (.yield l1) #[] #[]), (4, .pointer (some ⟨b8, 0, none⟩)), (6, .pointer (some ⟨b9, 0, none⟩)), (9, .pointer (some ⟨b10, 0, none⟩)), (20, .slice A6 e1.elems.length c6), (21, .int .i64 (e1.elems.length : Int)), (22, .int .i64 x4)] a ∧ Hp w V8 ((box b10 57 (cNPastRL e1 A6 c6 A7 c7 A8 c8 A9 c9)) :: (box b9 36 [.int .i64 p1.pfs, .int .i64 p1.obj, .int .i64 p1.off, .int .i64 0]) :: (box b8 24 [.int .i64 p0.root, .slice A1 p0.nodes.length c1]) :: (row 39 eElem A10 c10 x3) :: (loopo l1 lr1 (.exit 0) [] 0) :: (marko d1) :: (box b5 29 [.slice A10 x3.length c10]) :: (box b4 3 [.int .i64 p3]) :: (box b3 34 (cKPastRL p2)) :: G2) w') hz2 ?_ ?_
         ·
          exact fun a w' hf hh => Exists.intro x1 (Exists.intro 0 (And.intro rfl (Exists.intro A4 (Exists.intro c4 (Exists.intro V6 (And.intro (View.le_refl _) (And.intro ((((((((Fr.nil hf).pick hf 22 rfl).pick hf 21 rfl).pick hf 20 rfl).pick hf 9 rfl).pick hf 6 rfl).pick hf 4 rfl).pick hf 3 rfl) (hh.sub (List.Sublist.refl _)))))))))
         ·
          rintro s1 y1 hY1 hr2 a w' ⟨x3, x4, rfl, A10, c10, V8, hV8, hf, hh⟩
          refine (?_ : T 59 w V8 ((box b10 57 (cNPastRL e1 A6 c6 A7 c7 A8 c8 A9 c9)) :: (box b9 36 [.int .i64 p1.pfs, .int .i64 p1.obj, .int .i64 p1.off, .int .i64 0]) :: (box b8 24 [.int .i64 p0.root, .slice A1 p0.nodes.length c1]) :: (row 39 eElem A10 c10 x3) :: (loopo l1 lr1 (.exit 0) [] 0) :: (marko d1) :: (box b5 29 [.slice A10 x3.length c10]) :: (box b4 3 [.int .i64 p3]) :: (box b3 34 (cKPastRL p2)) :: G2) [(3, .func (.yield l1) #[] #[]), (4, .pointer (some ⟨b8, 0, none⟩)), (6, .pointer (some ⟨b9, 0, none⟩)), (9, .pointer (some ⟨b10, 0, none⟩)), (20, .slice A6 e1.elems.length c6), (21, .int .i64 (e1.elems.length : Int)), (22, .int .i64 x4)] _) a w' hf hh
          clear hf hh
          try dsimp only at hY1
          refine T.seq ?_
          refine T.region ?_
          refine T.pure (.bool (decide (x4 < (e1.elems.length : Int)))) (by kernel_rfl) (fun _ => by kernel_rfl) ?_
          refine T.nil ?_
          refine T.seq ?_
          refine T.cond (decide (x4 < (e1.elems.length : Int))) (by kernel_rfl) (by kernel_rfl) (fun hc5 => ?_) (fun hc5 => ?_)
          ·
           rw [hc5, cond_true] at hY1
           refine T.skip_code ?_
           refine T.seq ?_
           refine T.block ?_
           refine T.seq ?_
           refine T.region ?_
           obtain ⟨e2, hb5, hY1⟩ := Option.bind_eq_some_iff.1 hY1
           obtain ⟨hi4, hi5, hi6⟩ := idx_some hb5
           refine T.look (.pointer (some ((sadr A6).add (x4.toNat * 6)))) (by kernel_rfl) (fun w' hh => exec_indexAddr (e := 39) (s := 6) rfl rfl rfl (by kernel_rfl) (by kernel_rfl) hi4 hi5 ((SlOk.mono hs2 hV8).some_ hi6 (by decide))) ?_
           refine T.look (.agg #[.int .i64 e2.key.pfs, .int .i64 e2.key.obj, .int .i64 e2.key.off, .int .i64 e2.made, .int .i64 e2.gone, .string e2.val]) (by kernel_rfl) (fun w' hh => exec_loadN (cs := (cEPastRL e2)) rfl rfl (by kernel_rfl) (by kernel_rfl) (fun j u hj => (hh.cell_view (SlOk.cellF (E := eElem) (SlOk.mono hs2 hV8) hi6 j (fun _ _ _ h => h) hj)))) ?_
           refine T.step (W1.new 39 [.int .i64 0, .int .i64 0, .int .i64 0, .int .i64 0, .int .i64 0, .string (ByteArray.mk #[])] (fun b => .pointer (some ⟨b, 0, none⟩)) (by kernel_rfl) (fun _ => by kernel_rfl) (fun b11 => ?_))
           refine T.step (W1.store 0 (cEPastRL e2) ((box b11 39 (cEPastRL e2)) :: (box b10 57 (cNPastRL e1 A6 c6 A7 c7 A8 c8 A9 c9)) :: (box b9 36 [.int .i64 p1.pfs, .int .i64 p1.obj, .int .i64 p1.off, .int .i64 0]) :: (box b8 24 [.int .i64 p0.root, .slice A1 p0.nodes.length c1]) :: (row 39 eElem A10 c10 x3) :: (loopo l1 lr1 (.exit 0) [] 0) :: (marko d1) :: (box b5 29 [.slice A10 x3.length c10]) :: (box b4 3 [.int .i64 p3]) :: (box b3 34 (cKPastRL p2)) :: G2) (by rfl) rfl (by kernel_rfl) (fun w' hw => exec_store (vs := (cEPastRL e2)) rfl rfl rfl rfl (by kernel_rfl) (one_of rfl) (by simp) rfl hw) ?_)
           refine T.nil ?_
           obtain ⟨q4, hX3, hY1⟩ := Option.bind_eq_some_iff.1 hY1
           refine T.cut (fun a w' => ∃ (z5 : List DElem) (k3 : Nat), q4 = (z5, k3) ∧ ∃ (A12 : Option Addr) (c12 : Nat) (V10 : View), View.le V8 V10 ∧ Fr 59 [(3, .func (.yield l1) #[] #[]), (4, .pointer (some ⟨b8, 0, none⟩)), (6, .pointer (some ⟨b9, 0, none⟩)), (9, .pointer (some ⟨b10, 0, none⟩)), (20, .slice A6 e1.elems.length c6), (21, .int .i64 (e1.elems.length : Int)), (22, .int .i64 x4), (36, .bool (!(isz k3)))] a ∧ Hp w V10 ((box b10 57 (cNPastRL e1 A6 c6 A7 c7 A8 c8 A9 c9)) :: (box b9 36 [.int .i64 p1.pfs, .int .i64 p1.obj, .int .i64 p1.off, .int .i64 0]) :: (box b8 24 [.int .i64 p0.root, .slice A1 p0.nodes.length c1]) :: (row 39 eElem A12 c12 z5) :: (loopo l1 lr1 (.exit 0) [] k3) :: (marko d1) :: (box b5 29 [.slice A12 z5.length c12]) :: (box b4 3 [.int .i64 p3]) :: (box b3 34 (cKPastRL p2)) :: G2) w') ?_ ?_
           ·
            refine T.anyI (by kernel_rfl) ?_
            refine TI.all [0, 2] (by kernel_rfl) rfl ⟨?_, ?_, trivial⟩
            ·
             refine TI.br rfl (W1.toR (W1.look (.agg #[.int .i64 e2.key.pfs, .int .i64 e2.key.obj, .int .i64 e2.key.off, .int .i64 e2.made, .int .i64 e2.gone, .string e2.val]) (by kernel_rfl) (fun w' hh => exec_loadN (cs := (cEPastRL e2)) rfl rfl (by kernel_rfl) (by kernel_rfl) (fun j u hj => (hh.box_at (i := 0) (cs := (cEPastRL e2)) (by rfl) 0 j).trans (seg_at (n := 6) (by rfl) hj))) ?_))
             refine TI.all [1, 2] (by kernel_rfl) rfl ⟨?_, ?_, trivial⟩
             ·
              obtain ⟨r5, hb6, hX3⟩ := Option.bind_eq_some_iff.1 hX3
              refine TI.br rfl <| W1.toR (W1.call (vAg eSpot) r5 15 #[.agg #[.int .i64 e2.key.pfs, .int .i64 e2.key.obj, .int .i64 e2.key.off, .int .i64 e2.made, .int .i64 e2.gone, .string e2.val]] (by kernel_rfl) (fun _ => by kernel_rfl) (fun w' hh => elem_Spot_l e2 r5 hb6 w' ) ?_)
              intro u V11 hV11 hu
              obtain rfl := sureSpot _ _ _ hu
              refine TI.all [2] (by kernel_rfl) rfl ⟨?_, trivial⟩
              refine TI.br rfl (W1.toR (W1.look (.agg #[.int .i64 p1.pfs, .int .i64 p1.obj, .int .i64 p1.off, .int .i64 0]) (by kernel_rfl) (fun w' hh => exec_loadN (cs := [.int .i64 p1.pfs, .int .i64 p1.obj, .int .i64 p1.off, .int .i64 0]) rfl rfl (by kernel_rfl) (by kernel_rfl) (fun j u hj => (hh.box_at (i := 2) (cs := [.int .i64 p1.pfs, .int .i64 p1.obj, .int .i64 p1.off, .int .i64 0]) (by rfl) 0 j).trans (seg_at (n := 4) (by rfl) hj))) ?_))
              refine TI.all [3] (by kernel_rfl) rfl ⟨?_, trivial⟩
              obtain ⟨r6, hb7, hX3⟩ := Option.bind_eq_some_iff.1 hX3
              refine TI.br rfl <| W1.toR (W1.call (vSc eInt) r6 14 #[.agg #[.int .i64 r5.key.pfs, .int .i64 r5.key.obj, .int .i64 r5.key.off, .int .i64 r5.made], .agg #[.int .i64 p1.pfs, .int .i64 p1.obj, .int .i64 p1.off, .int .i64 0]] (by kernel_rfl) (fun _ => by kernel_rfl) (fun w' hh => key_CmpSpot_l r5 (DSpot.mk p1 0) r6 hb7 w' ) ?_)
              intro u V12 hV12 hu
              obtain rfl := sureInt _ _ _ hu
              refine TI.all [4] (by kernel_rfl) rfl ⟨?_, trivial⟩
              refine TI.br rfl (W1.toR (W1.look (.bool (decide ((0 : Int) ≤ r6))) (by kernel_rfl) (fun _ _ => by kernel_rfl) ?_))
              refine TI.all [5] (by kernel_rfl) rfl ⟨?_, trivial⟩
              refine TI.br rfl (W1.toR (W1.look (.bool (decide ((0 : Int) ≤ r6))) (by kernel_rfl) (fun _ _ => by kernel_rfl) ?_))
              cases hg1 : decide ((0 : Int) ≤ r6)
              ·
               rw [hg1, cond_false] at hX3
               refine TI.all [6, 7] (by kernel_rfl) rfl ⟨?_, ?_, trivial⟩
               ·
                refine TI.no rfl (by kernel_rfl) (by kernel_rfl) ?_
                refine TI.all [7] (by kernel_rfl) rfl ⟨?_, trivial⟩
                refine TI.no rfl (by kernel_rfl) (by kernel_rfl) ?_
                refine TI.all [8] (by kernel_rfl) rfl ⟨?_, trivial⟩
                refine TI.no rfl (by kernel_rfl) (by kernel_rfl) ?_
                refine TI.all [9] (by kernel_rfl) rfl ⟨?_, trivial⟩
                refine TI.no rfl (by kernel_rfl) (by kernel_rfl) ?_
                refine TI.all [10] (by kernel_rfl) rfl ⟨?_, trivial⟩
                refine TI.br rfl (W1.toR (W1.look (.bool false) (by kernel_rfl) (fun _ _ => by kernel_rfl) ?_))
                refine TI.done (by kernel_rfl) ?_
                cases hX3
                exact fun a w' hf hh => Exists.intro x3 (Exists.intro 0 (And.intro rfl (Exists.intro A10 (Exists.intro c10 (Exists.intro V12 (And.intro (View.le_trans hV11 hV12) (And.intro (((((((((Fr.nil hf).pick hf 36 rfl).pick hf 22 rfl).pick hf 21 rfl).pick hf 20 rfl).pick hf 9 rfl).pick hf 6 rfl).pick hf 4 rfl).pick hf 3 rfl) (hh.sub (.cons _ (List.Sublist.refl _))))))))))
               ·
                refine TI.no rfl (by kernel_rfl) (by kernel_rfl) ?_
                refine TI.all [6] (by kernel_rfl) rfl ⟨?_, trivial⟩
                refine TI.no rfl (by kernel_rfl) (by kernel_rfl) ?_
                refine TI.all [8] (by kernel_rfl) rfl ⟨?_, trivial⟩
                refine TI.no rfl (by kernel_rfl) (by kernel_rfl) ?_
                refine TI.all [9] (by kernel_rfl) rfl ⟨?_, trivial⟩
                refine TI.no rfl (by kernel_rfl) (by kernel_rfl) ?_
                refine TI.all [10] (by kernel_rfl) rfl ⟨?_, trivial⟩
                refine TI.br rfl (W1.toR (W1.look (.bool false) (by kernel_rfl) (fun _ _ => by kernel_rfl) ?_))
                refine TI.done (by kernel_rfl) ?_
                cases hX3
                exact fun a w' hf hh => Exists.intro x3 (Exists.intro 0 (And.intro rfl (Exists.intro A10 (Exists.intro c10 (Exists.intro V12 (And.intro (View.le_trans hV11 hV12) (And.intro (((((((((Fr.nil hf).pick hf 36 rfl).pick hf 22 rfl).pick hf 21 rfl).pick hf 20 rfl).pick hf 9 rfl).pick hf 6 rfl).pick hf 4 rfl).pick hf 3 rfl) (hh.sub (.cons _ (List.Sublist.refl _))))))))))
              ·
               rw [hg1, cond_true] at hX3
               refine TI.all [6, 7] (by kernel_rfl) rfl ⟨?_, ?_, trivial⟩
               ·
                refine TI.br rfl (W1.toR (W1.look (.func (.yield l1) #[] #[]) (by kernel_rfl) (fun _ _ => by kernel_rfl) ?_))
                refine TI.all [7] (by kernel_rfl) rfl ⟨?_, trivial⟩
                refine TI.br rfl (W1.toR (W1.look (.agg #[.int .i64 e2.key.pfs, .int .i64 e2.key.obj, .int .i64 e2.key.off, .int .i64 e2.made, .int .i64 e2.gone, .string e2.val]) (by kernel_rfl) (fun w' hh => exec_loadN (cs := (cEPastRL e2)) rfl rfl (by kernel_rfl) (by kernel_rfl) (fun j u hj => (hh.box_at (i := 0) (cs := (cEPastRL e2)) (by rfl) 0 j).trans (seg_at (n := 6) (by rfl) hj))) ?_))
                refine TI.all [8] (by kernel_rfl) rfl ⟨?_, trivial⟩
                obtain ⟨q5, hX4, hX3⟩ := Option.bind_eq_some_iff.1 hX3
                refine TI.br rfl (W1R.yield 5 l1 (fun v w' => ∃ (z6 : List DElem) (k4 : Nat), q5 = (z6, k4) ∧ ∃ (A13 : Option Addr) (c13 : Nat) (V13 : View), View.le V12 V13 ∧ v = .bool (isz k4) ∧ Hp w V13 ((box b11 39 (cEPastRL e2)) :: (box b10 57 (cNPastRL e1 A6 c6 A7 c7 A8 c8 A9 c9)) :: (box b9 36 [.int .i64 p1.pfs, .int .i64 p1.obj, .int .i64 p1.off, .int .i64 0]) :: (box b8 24 [.int .i64 p0.root, .slice A1 p0.nodes.length c1]) :: (row 39 eElem A13 c13 z6) :: (loopo l1 lr1 (.exit 0) [] k4) :: (marko d1) :: (box b5 29 [.slice A13 z6.length c13]) :: (box b4 3 [.int .i64 p3]) :: (box b3 34 (cKPastRL p2)) :: G2) w') (by rfl) hl1 hl2 hl3 hl4 (by rfl) (by kernel_rfl) rfl (by kernel_rfl) rfl ?_ ?_)
                ·
                 refine T.region ?_
                 refine T.step (W1.new 39 [.int .i64 0, .int .i64 0, .int .i64 0, .int .i64 0, .int .i64 0, .string (ByteArray.mk #[])] (fun b => .pointer (some ⟨b, 0, none⟩)) (by kernel_rfl) (fun _ => by kernel_rfl) (fun b12 => ?_))
                 refine T.step (W1.store 0 (cEPastRL e2) ((box b12 39 (cEPastRL e2)) :: (box b11 39 (cEPastRL e2)) :: (box b10 57 (cNPastRL e1 A6 c6 A7 c7 A8 c8 A9 c9)) :: (box b9 36 [.int .i64 p1.pfs, .int .i64 p1.obj, .int .i64 p1.off, .int .i64 0]) :: (box b8 24 [.int .i64 p0.root, .slice A1 p0.nodes.length c1]) :: (row 39 eElem A10 c10 x3) :: (loopo l1 lr1 (.exit 0) [] 0) :: (marko d1) :: (box b5 29 [.slice A10 x3.length c10]) :: (box b4 3 [.int .i64 p3]) :: (box b3 34 (cKPastRL p2)) :: G2) (by rfl) rfl (by kernel_rfl) (fun w' hw => exec_store (vs := (cEPastRL e2)) rfl rfl rfl rfl (by kernel_rfl) (one_of rfl) (by simp) rfl hw) ?_)
                 refine T.nil ?_
                 refine T.unthenN ?_
                 refine T.begin 6 ((box b12 39 (cEPastRL e2)) :: (box b11 39 (cEPastRL e2)) :: (box b10 57 (cNPastRL e1 A6 c6 A7 c7 A8 c8 A9 c9)) :: (box b9 36 [.int .i64 p1.pfs, .int .i64 p1.obj, .int .i64 p1.off, .int .i64 0]) :: (box b8 24 [.int .i64 p0.root, .slice A1 p0.nodes.length c1]) :: (row 39 eElem A10 c10 x3) :: (busyo l1 lr1) :: (marko d1) :: (box b5 29 [.slice A10 x3.length c10]) :: (box b4 3 [.int .i64 p3]) :: (box b3 34 (cKPastRL p2)) :: G2) (by rfl) rfl ?_
                 refine T.block ?_
                 refine T.seq ?_
                 refine T.seq ?_
                 refine T.region ?_
                 refine T.pure (.pointer (some ⟨b12, 0, none⟩)) (by kernel_rfl) (fun _ => by kernel_rfl) ?_
                 refine T.look (.agg #[.int .i64 e2.key.pfs, .int .i64 e2.key.obj, .int .i64 e2.key.off]) (by kernel_rfl) (fun w' hh => exec_loadN (cs := (cKPastRL e2.key)) rfl rfl (by kernel_rfl) (by kernel_rfl) (fun j u hj => (hh.box_at (i := 0) (cs := (cEPastRL e2)) (by rfl) 0 j).trans (seg_at (n := 3) (by rfl) hj))) ?_
                 refine T.look (.agg #[.int .i64 p2.pfs, .int .i64 p2.obj, .int .i64 p2.off]) (by kernel_rfl) (fun w' hh => exec_loadN (cs := (cKPastRL p2)) rfl rfl (by kernel_rfl) (by kernel_rfl) (fun j u hj => (hh.box_at (i := 10) (cs := (cKPastRL p2)) (by rfl) 0 j).trans (seg_at (n := 3) (by rfl) hj))) ?_
                 obtain ⟨r7, hb8, hX4⟩ := Option.bind_eq_some_iff.1 hX4
                 refine T.step (W1.call (vSc eInt) r7 37 #[.agg #[.int .i64 e2.key.pfs, .int .i64 e2.key.obj, .int .i64 e2.key.off], .agg #[.int .i64 p2.pfs, .int .i64 p2.obj, .int .i64 p2.off]] (by kernel_rfl) (fun _ => by kernel_rfl) (fun w' hh => key_Cmp_l e2.key p2 r7 hb8 w' ) ?_)
                 intro u V14 hV14 hu
                 obtain rfl := sureInt _ _ _ hu
                 refine T.pure (.bool (decide ((0 : Int) < r7))) (by kernel_rfl) (fun _ => by kernel_rfl) ?_
                 refine T.nil ?_
                 refine T.cond (decide ((0 : Int) < r7)) (by kernel_rfl) (by kernel_rfl) (fun hc6 => ?_) (fun hc6 => ?_)
                 ·
                  rw [hc6, cond_true] at hX4
                  refine T.exit ?_
                  cases hX4
                  repeat first | refine T.unthenX ?_ | refine T.unblockX rfl ?_
                  exact T.roundExit (.exit 0) [] 0 6 ((box b12 39 (cEPastRL e2)) :: (box b11 39 (cEPastRL e2)) :: (box b10 57 (cNPastRL e1 A6 c6 A7 c7 A8 c8 A9 c9)) :: (box b9 36 [.int .i64 p1.pfs, .int .i64 p1.obj, .int .i64 p1.off, .int .i64 0]) :: (box b8 24 [.int .i64 p0.root, .slice A1 p0.nodes.length c1]) :: (row 39 eElem A10 c10 x3) :: (loopo l1 lr1 (.exit 0) [] (0 + 1)) :: (marko d1) :: (box b5 29 [.slice A10 x3.length c10]) :: (box b4 3 [.int .i64 p3]) :: (box b3 34 (cKPastRL p2)) :: G2) (by rfl) rfl rfl (fun w' hh => ⟨_, rfl, Exists.intro x3 (Exists.intro (0 + 1) (And.intro rfl (Exists.intro A10 (Exists.intro c10 (Exists.intro V14 (And.intro hV14 (And.intro rfl (hh.sub (.cons _ (List.Sublist.refl _))))))))))⟩)
                 ·
                  rw [hc6, cond_false] at hX4
                  refine T.skip_code ?_
                  refine T.seq ?_
                  refine T.region ?_
                  refine T.look (.agg #[.int .i64 e2.key.pfs, .int .i64 e2.key.obj, .int .i64 e2.key.off, .int .i64 e2.made, .int .i64 e2.gone, .string e2.val]) (by kernel_rfl) (fun w' hh => exec_loadN (cs := (cEPastRL e2)) rfl rfl (by kernel_rfl) (by kernel_rfl) (fun j u hj => (hh.box_at (i := 0) (cs := (cEPastRL e2)) (by rfl) 0 j).trans (seg_at (n := 6) (by rfl) hj))) ?_
                  refine T.look (.int .i64 p3) (by kernel_rfl) (fun w' hh => exec_load1 rfl rfl (by kernel_rfl) (hh.cellBox (i := 9) (by rfl) 0)) ?_
                  obtain ⟨r8, hb9, hX4⟩ := Option.bind_eq_some_iff.1 hX4
                  refine T.step (W1.call (vSc eBool) r8 51 #[.agg #[.int .i64 e2.key.pfs, .int .i64 e2.key.obj, .int .i64 e2.key.off, .int .i64 e2.made, .int .i64 e2.gone, .string e2.val], .int .i64 p3] (by kernel_rfl) (fun _ => by kernel_rfl) (fun w' hh => elem_Live_l e2 p3 r8 hb9 w' ) ?_)
                  intro u V15 hV15 hu
                  obtain rfl := sureBool _ _ _ hu
                  refine T.nil ?_
                  refine T.cond r8 (by kernel_rfl) (by kernel_rfl) (fun hc7 => ?_) (fun hc7 => ?_)
                  ·
                   rw [hc7, cond_true] at hX4
                   refine T.region ?_
                   refine T.look (.slice A10 x3.length c10) (by kernel_rfl) (fun w' hh => exec_load1 rfl rfl (by kernel_rfl) (hh.cellBox (i := 8) (by rfl) 0)) ?_
                   refine T.look (.agg #[.int .i64 e2.key.pfs, .int .i64 e2.key.obj, .int .i64 e2.key.off, .int .i64 e2.made, .int .i64 e2.gone, .string e2.val]) (by kernel_rfl) (fun w' hh => exec_loadN (cs := (cEPastRL e2)) rfl rfl (by kernel_rfl) (by kernel_rfl) (fun j u hj => (hh.box_at (i := 0) (cs := (cEPastRL e2)) (by rfl) 0 j).trans (seg_at (n := 6) (by rfl) hj))) ?_
                   refine T.step (W1.new 39 (cEPastRL e2) (fun b => .slice (some ⟨b, 0, none⟩) 1 1) (by kernel_rfl) (fun _ => by kernel_rfl) (fun b13 => ?_))
                   obtain ⟨y2, hb10, hX4⟩ := Option.bind_eq_some_iff.1 hX4
                   obtain ⟨hb10_r, hb10_m, rfl⟩ := grow_some hb10
                   obtain ⟨ti, hti, hz1, hz2, hz3⟩ := info_parts (P := Try.prog) (e := 39) (z := .agg #[.int .i64 0, .int .i64 0, .int .i64 0, .int .i64 0, .int .i64 0, .string (ByteArray.mk #[])]) (size := 6) (bytes := 56) (by kernel_rfl)
                   refine T.step (W1.append (E := eElem) (l := x3) (m := [e2]) 6 _ _ 56 ti _ (by rfl) (by kernel_rfl) rfl (by kernel_rfl) hti hz1 hz2 hz3 rfl (by decide) rfl rfl (fun w' hh => (SlOk.srcF (slok_lit (E := eElem) (f := DElem.cells) [e2] (fun _ _ => rfl) (Nat.le_of_ble_eq_true (by rfl)) (fun j => hh.cellBox (i := 0) (by rfl) j)) (fun _ _ _ _ h => h))) hb10_r hb10_m (fun A14 c14 => ?_))
                   refine T.step (W1.store 9 [.slice A14 ((x3 ++ [e2]).length) c14] ((box b13 39 (cEPastRL e2)) :: (box b12 39 (cEPastRL e2)) :: (box b11 39 (cEPastRL e2)) :: (box b10 57 (cNPastRL e1 A6 c6 A7 c7 A8 c8 A9 c9)) :: (box b9 36 [.int .i64 p1.pfs, .int .i64 p1.obj, .int .i64 p1.off, .int .i64 0]) :: (box b8 24 [.int .i64 p0.root, .slice A1 p0.nodes.length c1]) :: (row 39 eElem A14 c14 (x3 ++ [e2])) :: (busyo l1 lr1) :: (marko d1) :: (box b5 29 [.slice A14 ((x3 ++ [e2]).length) c14]) :: (box b4 3 [.int .i64 p3]) :: (box b3 34 (cKPastRL p2)) :: G2) (by rfl) rfl (by kernel_rfl) (fun w' hw => exec_store (vs := [.slice A14 ((x3 ++ [e2]).length) c14]) rfl rfl rfl rfl (by kernel_rfl) (one_of rfl) (by simp) rfl hw) ?_)
                   refine T.nil ?_
                   cases hX4
                   repeat first | refine T.unthenN ?_ | refine T.unblockN ?_
                   exact T.roundEnd (.exit 0) [] 7 ((box b13 39 (cEPastRL e2)) :: (box b12 39 (cEPastRL e2)) :: (box b11 39 (cEPastRL e2)) :: (box b10 57 (cNPastRL e1 A6 c6 A7 c7 A8 c8 A9 c9)) :: (box b9 36 [.int .i64 p1.pfs, .int .i64 p1.obj, .int .i64 p1.off, .int .i64 0]) :: (box b8 24 [.int .i64 p0.root, .slice A1 p0.nodes.length c1]) :: (row 39 eElem A14 c14 (x3 ++ [e2])) :: (loopo l1 lr1 (.exit 0) [] 0) :: (marko d1) :: (box b5 29 [.slice A14 ((x3 ++ [e2]).length) c14]) :: (box b4 3 [.int .i64 p3]) :: (box b3 34 (cKPastRL p2)) :: G2) (by rfl) rfl (fun w' hh => ⟨_, rfl, Exists.intro (x3 ++ [e2]) (Exists.intro 0 (And.intro rfl (Exists.intro A14 (Exists.intro c14 (Exists.intro V15 (And.intro (View.le_trans hV14 hV15) (And.intro rfl (hh.sub (.cons _ (.cons _ (List.Sublist.refl _)))))))))))⟩)
                  ·
                   rw [hc7, cond_false] at hX4
                   refine T.skip_code ?_
                   cases hX4
                   repeat first | refine T.unthenN ?_ | refine T.unblockN ?_
                   exact T.roundEnd (.exit 0) [] 6 ((box b12 39 (cEPastRL e2)) :: (box b11 39 (cEPastRL e2)) :: (box b10 57 (cNPastRL e1 A6 c6 A7 c7 A8 c8 A9 c9)) :: (box b9 36 [.int .i64 p1.pfs, .int .i64 p1.obj, .int .i64 p1.off, .int .i64 0]) :: (box b8 24 [.int .i64 p0.root, .slice A1 p0.nodes.length c1]) :: (row 39 eElem A10 c10 x3) :: (loopo l1 lr1 (.exit 0) [] 0) :: (marko d1) :: (box b5 29 [.slice A10 x3.length c10]) :: (box b4 3 [.int .i64 p3]) :: (box b3 34 (cKPastRL p2)) :: G2) (by rfl) rfl (fun w' hh => ⟨_, rfl, Exists.intro x3 (Exists.intro 0 (And.intro rfl (Exists.intro A10 (Exists.intro c10 (Exists.intro V15 (And.intro (View.le_trans hV14 hV15) (And.intro rfl (hh.sub (.cons _ (List.Sublist.refl _))))))))))⟩)
                ·
                 rintro v w' ⟨z6, k4, rfl, A13, c13, V13, hV13, rfl, hh⟩
                 try dsimp only at hX3
                 refine ⟨V13, ((box b11 39 (cEPastRL e2)) :: (box b10 57 (cNPastRL e1 A6 c6 A7 c7 A8 c8 A9 c9)) :: (box b9 36 [.int .i64 p1.pfs, .int .i64 p1.obj, .int .i64 p1.off, .int .i64 0]) :: (box b8 24 [.int .i64 p0.root, .slice A1 p0.nodes.length c1]) :: (row 39 eElem A13 c13 z6) :: (loopo l1 lr1 (.exit 0) [] k4) :: (marko d1) :: (box b5 29 [.slice A13 z6.length c13]) :: (box b4 3 [.int .i64 p3]) :: (box b3 34 (cKPastRL p2)) :: G2), hh, ?_⟩
                 clear hh
                 cases k4 with
                 | zero =>
                  rw [natCase_zero] at hX3
                  refine TI.all [9] (by kernel_rfl) rfl ⟨?_, trivial⟩
                  refine TI.br rfl (W1.toR (W1.look (.bool false) (by kernel_rfl) (fun _ _ => by kernel_rfl) ?_))
                  refine TI.all [10] (by kernel_rfl) rfl ⟨?_, trivial⟩
                  refine TI.br rfl (W1.toR (W1.look (.bool false) (by kernel_rfl) (fun _ _ => by kernel_rfl) ?_))
                  refine TI.done (by kernel_rfl) ?_
                  cases hX3
                  exact fun a w' hf hh => Exists.intro z6 (Exists.intro 0 (And.intro rfl (Exists.intro A13 (Exists.intro c13 (Exists.intro V13 (And.intro (View.le_trans (View.le_trans hV11 hV12) hV13) (And.intro (((((((((Fr.nil hf).pick hf 36 rfl).pick hf 22 rfl).pick hf 21 rfl).pick hf 20 rfl).pick hf 9 rfl).pick hf 6 rfl).pick hf 4 rfl).pick hf 3 rfl) (hh.sub (.cons _ (List.Sublist.refl _))))))))))
                 | succ k5 =>
                  rw [natCase_succ] at hX3
                  refine TI.all [9] (by kernel_rfl) rfl ⟨?_, trivial⟩
                  refine TI.br rfl (W1.toR (W1.look (.bool true) (by kernel_rfl) (fun _ _ => by kernel_rfl) ?_))
                  refine TI.all [10] (by kernel_rfl) rfl ⟨?_, trivial⟩
                  refine TI.br rfl (W1.toR (W1.look (.bool true) (by kernel_rfl) (fun _ _ => by kernel_rfl) ?_))
                  refine TI.done (by kernel_rfl) ?_
                  cases hX3
                  exact fun a w' hf hh => Exists.intro z6 (Exists.intro (k5 + 1) (And.intro rfl (Exists.intro A13 (Exists.intro c13 (Exists.intro V13 (And.intro (View.le_trans (View.le_trans hV11 hV12) hV13) (And.intro (((((((((Fr.nil hf).pick hf 36 rfl).pick hf 22 rfl).pick hf 21 rfl).pick hf 20 rfl).pick hf 9 rfl).pick hf 6 rfl).pick hf 4 rfl).pick hf 3 rfl) (hh.sub (.cons _ (List.Sublist.refl _))))))))))
               ·
                refine TI.br rfl (W1.toR (W1.look (.agg #[.int .i64 e2.key.pfs, .int .i64 e2.key.obj, .int .i64 e2.key.off, .int .i64 e2.made, .int .i64 e2.gone, .string e2.val]) (by kernel_rfl) (fun w' hh => exec_loadN (cs := (cEPastRL e2)) rfl rfl (by kernel_rfl) (by kernel_rfl) (fun j u hj => (hh.box_at (i := 0) (cs := (cEPastRL e2)) (by rfl) 0 j).trans (seg_at (n := 6) (by rfl) hj))) ?_))
                refine TI.all [6] (by kernel_rfl) rfl ⟨?_, trivial⟩
                refine TI.br rfl (W1.toR (W1.look (.func (.yield l1) #[] #[]) (by kernel_rfl) (fun _ _ => by kernel_rfl) ?_))
                refine TI.all [8] (by kernel_rfl) rfl ⟨?_, trivial⟩
                obtain ⟨q5, hX4, hX3⟩ := Option.bind_eq_some_iff.1 hX3
                refine TI.br rfl (W1R.yield 5 l1 (fun v w' => ∃ (z6 : List DElem) (k4 : Nat), q5 = (z6, k4) ∧ ∃ (A13 : Option Addr) (c13 : Nat) (V13 : View), View.le V12 V13 ∧ v = .bool (isz k4) ∧ Hp w V13 ((box b11 39 (cEPastRL e2)) :: (box b10 57 (cNPastRL e1 A6 c6 A7 c7 A8 c8 A9 c9)) :: (box b9 36 [.int .i64 p1.pfs, .int .i64 p1.obj, .int .i64 p1.off, .int .i64 0]) :: (box b8 24 [.int .i64 p0.root, .slice A1 p0.nodes.length c1]) :: (row 39 eElem A13 c13 z6) :: (loopo l1 lr1 (.exit 0) [] k4) :: (marko d1) :: (box b5 29 [.slice A13 z6.length c13]) :: (box b4 3 [.int .i64 p3]) :: (box b3 34 (cKPastRL p2)) :: G2) w') (by rfl) hl1 hl2 hl3 hl4 (by rfl) (by kernel_rfl) rfl (by kernel_rfl) rfl ?_ ?_)
                ·
                 refine T.region ?_
                 refine T.step (W1.new 39 [.int .i64 0, .int .i64 0, .int .i64 0, .int .i64 0, .int .i64 0, .string (ByteArray.mk #[])] (fun b => .pointer (some ⟨b, 0, none⟩)) (by kernel_rfl) (fun _ => by kernel_rfl) (fun b12 => ?_))
                 refine T.step (W1.store 0 (cEPastRL e2) ((box b12 39 (cEPastRL e2)) :: (box b11 39 (cEPastRL e2)) :: (box b10 57 (cNPastRL e1 A6 c6 A7 c7 A8 c8 A9 c9)) :: (box b9 36 [.int .i64 p1.pfs, .int .i64 p1.obj, .int .i64 p1.off, .int .i64 0]) :: (box b8 24 [.int .i64 p0.root, .slice A1 p0.nodes.length c1]) :: (row 39 eElem A10 c10 x3) :: (loopo l1 lr1 (.exit 0) [] 0) :: (marko d1) :: (box b5 29 [.slice A10 x3.length c10]) :: (box b4 3 [.int .i64 p3]) :: (box b3 34 (cKPastRL p2)) :: G2) (by rfl) rfl (by kernel_rfl) (fun w' hw => exec_store (vs := (cEPastRL e2)) rfl rfl rfl rfl (by kernel_rfl) (one_of rfl) (by simp) rfl hw) ?_)
                 refine T.nil ?_
                 refine T.unthenN ?_
                 refine T.begin 6 ((box b12 39 (cEPastRL e2)) :: (box b11 39 (cEPastRL e2)) :: (box b10 57 (cNPastRL e1 A6 c6 A7 c7 A8 c8 A9 c9)) :: (box b9 36 [.int .i64 p1.pfs, .int .i64 p1.obj, .int .i64 p1.off, .int .i64 0]) :: (box b8 24 [.int .i64 p0.root, .slice A1 p0.nodes.length c1]) :: (row 39 eElem A10 c10 x3) :: (busyo l1 lr1) :: (marko d1) :: (box b5 29 [.slice A10 x3.length c10]) :: (box b4 3 [.int .i64 p3]) :: (box b3 34 (cKPastRL p2)) :: G2) (by rfl) rfl ?_
                 refine T.block ?_
                 refine T.seq ?_
                 refine T.seq ?_
                 refine T.region ?_
                 refine T.pure (.pointer (some ⟨b12, 0, none⟩)) (by kernel_rfl) (fun _ => by kernel_rfl) ?_
                 refine T.look (.agg #[.int .i64 e2.key.pfs, .int .i64 e2.key.obj, .int .i64 e2.key.off]) (by kernel_rfl) (fun w' hh => exec_loadN (cs := (cKPastRL e2.key)) rfl rfl (by kernel_rfl) (by kernel_rfl) (fun j u hj => (hh.box_at (i := 0) (cs := (cEPastRL e2)) (by rfl) 0 j).trans (seg_at (n := 3) (by rfl) hj))) ?_
                 refine T.look (.agg #[.int .i64 p2.pfs, .int .i64 p2.obj, .int .i64 p2.off]) (by kernel_rfl) (fun w' hh => exec_loadN (cs := (cKPastRL p2)) rfl rfl (by kernel_rfl) (by kernel_rfl) (fun j u hj => (hh.box_at (i := 10) (cs := (cKPastRL p2)) (by rfl) 0 j).trans (seg_at (n := 3) (by rfl) hj))) ?_
                 obtain ⟨r7, hb8, hX4⟩ := Option.bind_eq_some_iff.1 hX4
                 refine T.step (W1.call (vSc eInt) r7 37 #[.agg #[.int .i64 e2.key.pfs, .int .i64 e2.key.obj, .int .i64 e2.key.off], .agg #[.int .i64 p2.pfs, .int .i64 p2.obj, .int .i64 p2.off]] (by kernel_rfl) (fun _ => by kernel_rfl) (fun w' hh => key_Cmp_l e2.key p2 r7 hb8 w' ) ?_)
                 intro u V14 hV14 hu
                 obtain rfl := sureInt _ _ _ hu
                 refine T.pure (.bool (decide ((0 : Int) < r7))) (by kernel_rfl) (fun _ => by kernel_rfl) ?_
                 refine T.nil ?_
                 refine T.cond (decide ((0 : Int) < r7)) (by kernel_rfl) (by kernel_rfl) (fun hc6 => ?_) (fun hc6 => ?_)
                 ·
                  rw [hc6, cond_true] at hX4
                  refine T.exit ?_
                  cases hX4
                  repeat first | refine T.unthenX ?_ | refine T.unblockX rfl ?_
                  exact T.roundExit (.exit 0) [] 0 6 ((box b12 39 (cEPastRL e2)) :: (box b11 39 (cEPastRL e2)) :: (box b10 57 (cNPastRL e1 A6 c6 A7 c7 A8 c8 A9 c9)) :: (box b9 36 [.int .i64 p1.pfs, .int .i64 p1.obj, .int .i64 p1.off, .int .i64 0]) :: (box b8 24 [.int .i64 p0.root, .slice A1 p0.nodes.length c1]) :: (row 39 eElem A10 c10 x3) :: (loopo l1 lr1 (.exit 0) [] (0 + 1)) :: (marko d1) :: (box b5 29 [.slice A10 x3.length c10]) :: (box b4 3 [.int .i64 p3]) :: (box b3 34 (cKPastRL p2)) :: G2) (by rfl) rfl rfl (fun w' hh => ⟨_, rfl, Exists.intro x3 (Exists.intro (0 + 1) (And.intro rfl (Exists.intro A10 (Exists.intro c10 (Exists.intro V14 (And.intro hV14 (And.intro rfl (hh.sub (.cons _ (List.Sublist.refl _))))))))))⟩)
                 ·
                  rw [hc6, cond_false] at hX4
                  refine T.skip_code ?_
                  refine T.seq ?_
                  refine T.region ?_
                  refine T.look (.agg #[.int .i64 e2.key.pfs, .int .i64 e2.key.obj, .int .i64 e2.key.off, .int .i64 e2.made, .int .i64 e2.gone, .string e2.val]) (by kernel_rfl) (fun w' hh => exec_loadN (cs := (cEPastRL e2)) rfl rfl (by kernel_rfl) (by kernel_rfl) (fun j u hj => (hh.box_at (i := 0) (cs := (cEPastRL e2)) (by rfl) 0 j).trans (seg_at (n := 6) (by rfl) hj))) ?_
                  refine T.look (.int .i64 p3) (by kernel_rfl) (fun w' hh => exec_load1 rfl rfl (by kernel_rfl) (hh.cellBox (i := 9) (by rfl) 0)) ?_
                  obtain ⟨r8, hb9, hX4⟩ := Option.bind_eq_some_iff.1 hX4
                  refine T.step (W1.call (vSc eBool) r8 51 #[.agg #[.int .i64 e2.key.pfs, .int .i64 e2.key.obj, .int .i64 e2.key.off, .int .i64 e2.made, .int .i64 e2.gone, .string e2.val], .int .i64 p3] (by kernel_rfl) (fun _ => by kernel_rfl) (fun w' hh => elem_Live_l e2 p3 r8 hb9 w' ) ?_)
                  intro u V15 hV15 hu
                  obtain rfl := sureBool _ _ _ hu
                  refine T.nil ?_
                  refine T.cond r8 (by kernel_rfl) (by kernel_rfl) (fun hc7 => ?_) (fun hc7 => ?_)
                  ·
                   rw [hc7, cond_true] at hX4
                   refine T.region ?_
                   refine T.look (.slice A10 x3.length c10) (by kernel_rfl) (fun w' hh => exec_load1 rfl rfl (by kernel_rfl) (hh.cellBox (i := 8) (by rfl) 0)) ?_
                   refine T.look (.agg #[.int .i64 e2.key.pfs, .int .i64 e2.key.obj, .int .i64 e2.key.off, .int .i64 e2.made, .int .i64 e2.gone, .string e2.val]) (by kernel_rfl) (fun w' hh => exec_loadN (cs := (cEPastRL e2)) rfl rfl (by kernel_rfl) (by kernel_rfl) (fun j u hj => (hh.box_at (i := 0) (cs := (cEPastRL e2)) (by rfl) 0 j).trans (seg_at (n := 6) (by rfl) hj))) ?_
                   refine T.step (W1.new 39 (cEPastRL e2) (fun b => .slice (some ⟨b, 0, none⟩) 1 1) (by kernel_rfl) (fun _ => by kernel_rfl) (fun b13 => ?_))
                   obtain ⟨y2, hb10, hX4⟩ := Option.bind_eq_some_iff.1 hX4
                   obtain ⟨hb10_r, hb10_m, rfl⟩ := grow_some hb10
                   obtain ⟨ti, hti, hz1, hz2, hz3⟩ := info_parts (P := Try.prog) (e := 39) (z := .agg #[.int .i64 0, .int .i64 0, .int .i64 0, .int .i64 0, .int .i64 0, .string (ByteArray.mk #[])]) (size := 6) (bytes := 56) (by kernel_rfl)
                   refine T.step (W1.append (E := eElem) (l := x3) (m := [e2]) 6 _ _ 56 ti _ (by rfl) (by kernel_rfl) rfl (by kernel_rfl) hti hz1 hz2 hz3 rfl (by decide) rfl rfl (fun w' hh => (SlOk.srcF (slok_lit (E := eElem) (f := DElem.cells) [e2] (fun _ _ => rfl) (Nat.le_of_ble_eq_true (by rfl)) (fun j => hh.cellBox (i := 0) (by rfl) j)) (fun _ _ _ _ h => h))) hb10_r hb10_m (fun A14 c14 => ?_))
                   refine T.step (W1.store 9 [.slice A14 ((x3 ++ [e2]).length) c14] ((box b13 39 (cEPastRL e2)) :: (box b12 39 (cEPastRL e2)) :: (box b11 39 (cEPastRL e2)) :: (box b10 57 (cNPastRL e1 A6 c6 A7 c7 A8 c8 A9 c9)) :: (box b9 36 [.int .i64 p1.pfs, .int .i64 p1.obj, .int .i64 p1.off, .int .i64 0]) :: (box b8 24 [.int .i64 p0.root, .slice A1 p0.nodes.length c1]) :: (row 39 eElem A14 c14 (x3 ++ [e2])) :: (busyo l1 lr1) :: (marko d1) :: (box b5 29 [.slice A14 ((x3 ++ [e2]).length) c14]) :: (box b4 3 [.int .i64 p3]) :: (box b3 34 (cKPastRL p2)) :: G2) (by rfl) rfl (by kernel_rfl) (fun w' hw => exec_store (vs := [.slice A14 ((x3 ++ [e2]).length) c14]) rfl rfl rfl rfl (by kernel_rfl) (one_of rfl) (by simp) rfl hw) ?_)
                   refine T.nil ?_
                   cases hX4
                   repeat first | refine T.unthenN ?_ | refine T.unblockN ?_
                   exact T.roundEnd (.exit 0) [] 7 ((box b13 39 (cEPastRL e2)) :: (box b12 39 (cEPastRL e2)) :: (box b11 39 (cEPastRL e2)) :: (box b10 57 (cNPastRL e1 A6 c6 A7 c7 A8 c8 A9 c9)) :: (box b9 36 [.int .i64 p1.pfs, .int .i64 p1.obj, .int .i64 p1.off, .int .i64 0]) :: (box b8 24 [.int .i64 p0.root, .slice A1 p0.nodes.length c1]) :: (row 39 eElem A14 c14 (x3 ++ [e2])) :: (loopo l1 lr1 (.exit 0) [] 0) :: (marko d1) :: (box b5 29 [.slice A14 ((x3 ++ [e2]).length) c14]) :: (box b4 3 [.int .i64 p3]) :: (box b3 34 (cKPastRL p2)) :: G2) (by rfl) rfl (fun w' hh => ⟨_, rfl, Exists.intro (x3 ++ [e2]) (Exists.intro 0 (And.intro rfl (Exists.intro A14 (Exists.intro c14 (Exists.intro V15 (And.intro (View.le_trans hV14 hV15) (And.intro rfl (hh.sub (.cons _ (.cons _ (List.Sublist.refl _)))))))))))⟩)
                  ·
                   rw [hc7, cond_false] at hX4
                   refine T.skip_code ?_
                   cases hX4
                   repeat first | refine T.unthenN ?_ | refine T.unblockN ?_
                   exact T.roundEnd (.exit 0) [] 6 ((box b12 39 (cEPastRL e2)) :: (box b11 39 (cEPastRL e2)) :: (box b10 57 (cNPastRL e1 A6 c6 A7 c7 A8 c8 A9 c9)) :: (box b9 36 [.int .i64 p1.pfs, .int .i64 p1.obj, .int .i64 p1.off, .int .i64 0]) :: (box b8 24 [.int .i64 p0.root, .slice A1 p0.nodes.length c1]) :: (row 39 eElem A10 c10 x3) :: (loopo l1 lr1 (.exit 0) [] 0) :: (marko d1) :: (box b5 29 [.slice A10 x3.length c10]) :: (box b4 3 [.int .i64 p3]) :: (box b3 34 (cKPastRL p2)) :: G2) (by rfl) rfl (fun w' hh => ⟨_, rfl, Exists.intro x3 (Exists.intro 0 (And.intro rfl (Exists.intro A10 (Exists.intro c10 (Exists.intro V15 (And.intro (View.le_trans hV14 hV15) (And.intro rfl (hh.sub (.cons _ (List.Sublist.refl _))))))))))⟩)
                ·
                 rintro v w' ⟨z6, k4, rfl, A13, c13, V13, hV13, rfl, hh⟩
                 try dsimp only at hX3
                 refine ⟨V13, ((box b11 39 (cEPastRL e2)) :: (box b10 57 (cNPastRL e1 A6 c6 A7 c7 A8 c8 A9 c9)) :: (box b9 36 [.int .i64 p1.pfs, .int .i64 p1.obj, .int .i64 p1.off, .int .i64 0]) :: (box b8 24 [.int .i64 p0.root, .slice A1 p0.nodes.length c1]) :: (row 39 eElem A13 c13 z6) :: (loopo l1 lr1 (.exit 0) [] k4) :: (marko d1) :: (box b5 29 [.slice A13 z6.length c13]) :: (box b4 3 [.int .i64 p3]) :: (box b3 34 (cKPastRL p2)) :: G2), hh, ?_⟩
                 clear hh
                 cases k4 with
                 | zero =>
                  rw [natCase_zero] at hX3
                  refine TI.all [9] (by kernel_rfl) rfl ⟨?_, trivial⟩
                  refine TI.br rfl (W1.toR (W1.look (.bool false) (by kernel_rfl) (fun _ _ => by kernel_rfl) ?_))
                  refine TI.all [10] (by kernel_rfl) rfl ⟨?_, trivial⟩
                  refine TI.br rfl (W1.toR (W1.look (.bool false) (by kernel_rfl) (fun _ _ => by kernel_rfl) ?_))
                  refine TI.done (by kernel_rfl) ?_
                  cases hX3
                  exact fun a w' hf hh => Exists.intro z6 (Exists.intro 0 (And.intro rfl (Exists.intro A13 (Exists.intro c13 (Exists.intro V13 (And.intro (View.le_trans (View.le_trans hV11 hV12) hV13) (And.intro (((((((((Fr.nil hf).pick hf 36 rfl).pick hf 22 rfl).pick hf 21 rfl).pick hf 20 rfl).pick hf 9 rfl).pick hf 6 rfl).pick hf 4 rfl).pick hf 3 rfl) (hh.sub (.cons _ (List.Sublist.refl _))))))))))
                 | succ k5 =>
                  rw [natCase_succ] at hX3
                  refine TI.all [9] (by kernel_rfl) rfl ⟨?_, trivial⟩
                  refine TI.br rfl (W1.toR (W1.look (.bool true) (by kernel_rfl) (fun _ _ => by kernel_rfl) ?_))
                  refine TI.all [10] (by kernel_rfl) rfl ⟨?_, trivial⟩
                  refine TI.br rfl (W1.toR (W1.look (.bool true) (by kernel_rfl) (fun _ _ => by kernel_rfl) ?_))
                  refine TI.done (by kernel_rfl) ?_
                  cases hX3
                  exact fun a w' hf hh => Exists.intro z6 (Exists.intro (k5 + 1) (And.intro rfl (Exists.intro A13 (Exists.intro c13 (Exists.intro V13 (And.intro (View.le_trans (View.le_trans hV11 hV12) hV13) (And.intro (((((((((Fr.nil hf).pick hf 36 rfl).pick hf 22 rfl).pick hf 21 rfl).pick hf 20 rfl).pick hf 9 rfl).pick hf 6 rfl).pick hf 4 rfl).pick hf 3 rfl) (hh.sub (.cons _ (List.Sublist.refl _))))))))))
             ·
              refine TI.br rfl (W1.toR (W1.look (.agg #[.int .i64 p1.pfs, .int .i64 p1.obj, .int .i64 p1.off, .int .i64 0]) (by kernel_rfl) (fun w' hh => exec_loadN (cs := [.int .i64 p1.pfs, .int .i64 p1.obj, .int .i64 p1.off, .int .i64 0]) rfl rfl (by kernel_rfl) (by kernel_rfl) (fun j u hj => (hh.box_at (i := 2) (cs := [.int .i64 p1.pfs, .int .i64 p1.obj, .int .i64 p1.off, .int .i64 0]) (by rfl) 0 j).trans (seg_at (n := 4) (by rfl) hj))) ?_))
              refine TI.all [1] (by kernel_rfl) rfl ⟨?_, trivial⟩
              obtain ⟨r5, hb6, hX3⟩ := Option.bind_eq_some_iff.1 hX3
              refine TI.br rfl <| W1.toR (W1.call (vAg eSpot) r5 15 #[.agg #[.int .i64 e2.key.pfs, .int .i64 e2.key.obj, .int .i64 e2.key.off, .int .i64 e2.made, .int .i64 e2.gone, .string e2.val]] (by kernel_rfl) (fun _ => by kernel_rfl) (fun w' hh => elem_Spot_l e2 r5 hb6 w' ) ?_)
              intro u V11 hV11 hu
              obtain rfl := sureSpot _ _ _ hu
              refine TI.all [3] (by kernel_rfl) rfl ⟨?_, trivial⟩
              obtain ⟨r6, hb7, hX3⟩ := Option.bind_eq_some_iff.1 hX3
              refine TI.br rfl <| W1.toR (W1.call (vSc eInt) r6 14 #[.agg #[.int .i64 r5.key.pfs, .int .i64 r5.key.obj, .int .i64 r5.key.off, .int .i64 r5.made], .agg #[.int .i64 p1.pfs, .int .i64 p1.obj, .int .i64 p1.off, .int .i64 0]] (by kernel_rfl) (fun _ => by kernel_rfl) (fun w' hh => key_CmpSpot_l r5 (DSpot.mk p1 0) r6 hb7 w' ) ?_)
              intro u V12 hV12 hu
              obtain rfl := sureInt _ _ _ hu
              refine TI.all [4] (by kernel_rfl) rfl ⟨?_, trivial⟩
              refine TI.br rfl (W1.toR (W1.look (.bool (decide ((0 : Int) ≤ r6))) (by kernel_rfl) (fun _ _ => by kernel_rfl) ?_))
              refine TI.all [5] (by kernel_rfl) rfl ⟨?_, trivial⟩
              refine TI.br rfl (W1.toR (W1.look (.bool (decide ((0 : Int) ≤ r6))) (by kernel_rfl) (fun _ _ => by kernel_rfl) ?_))
              cases hg1 : decide ((0 : Int) ≤ r6)
              ·
               rw [hg1, cond_false] at hX3
               refine TI.all [6, 7] (by kernel_rfl) rfl ⟨?_, ?_, trivial⟩
               ·
                refine TI.no rfl (by kernel_rfl) (by kernel_rfl) ?_
                refine TI.all [7] (by kernel_rfl) rfl ⟨?_, trivial⟩
                refine TI.no rfl (by kernel_rfl) (by kernel_rfl) ?_
                refine TI.all [8] (by kernel_rfl) rfl ⟨?_, trivial⟩
                refine TI.no rfl (by kernel_rfl) (by kernel_rfl) ?_
                refine TI.all [9] (by kernel_rfl) rfl ⟨?_, trivial⟩
                refine TI.no rfl (by kernel_rfl) (by kernel_rfl) ?_
                refine TI.all [10] (by kernel_rfl) rfl ⟨?_, trivial⟩
                refine TI.br rfl (W1.toR (W1.look (.bool false) (by kernel_rfl) (fun _ _ => by kernel_rfl) ?_))
                refine TI.done (by kernel_rfl) ?_
                cases hX3
                exact fun a w' hf hh => Exists.intro x3 (Exists.intro 0 (And.intro rfl (Exists.intro A10 (Exists.intro c10 (Exists.intro V12 (And.intro (View.le_trans hV11 hV12) (And.intro (((((((((Fr.nil hf).pick hf 36 rfl).pick hf 22 rfl).pick hf 21 rfl).pick hf 20 rfl).pick hf 9 rfl).pick hf 6 rfl).pick hf 4 rfl).pick hf 3 rfl) (hh.sub (.cons _ (List.Sublist.refl _))))))))))
               ·
                refine TI.no rfl (by kernel_rfl) (by kernel_rfl) ?_
                refine TI.all [6] (by kernel_rfl) rfl ⟨?_, trivial⟩
                refine TI.no rfl (by kernel_rfl) (by kernel_rfl) ?_
                refine TI.all [8] (by kernel_rfl) rfl ⟨?_, trivial⟩
                refine TI.no rfl (by kernel_rfl) (by kernel_rfl) ?_
                refine TI.all [9] (by kernel_rfl) rfl ⟨?_, trivial⟩
                refine TI.no rfl (by kernel_rfl) (by kernel_rfl) ?_
                refine TI.all [10] (by kernel_rfl) rfl ⟨?_, trivial⟩
                refine TI.br rfl (W1.toR (W1.look (.bool false) (by kernel_rfl) (fun _ _ => by kernel_rfl) ?_))
                refine TI.done (by kernel_rfl) ?_
                cases hX3
                exact fun a w' hf hh => Exists.intro x3 (Exists.intro 0 (And.intro rfl (Exists.intro A10 (Exists.intro c10 (Exists.intro V12 (And.intro (View.le_trans hV11 hV12) (And.intro (((((((((Fr.nil hf).pick hf 36 rfl).pick hf 22 rfl).pick hf 21 rfl).pick hf 20 rfl).pick hf 9 rfl).pick hf 6 rfl).pick hf 4 rfl).pick hf 3 rfl) (hh.sub (.cons _ (List.Sublist.refl _))))))))))
              ·
               rw [hg1, cond_true] at hX3
               refine TI.all [6, 7] (by kernel_rfl) rfl ⟨?_, ?_, trivial⟩
               ·
                refine TI.br rfl (W1.toR (W1.look (.func (.yield l1) #[] #[]) (by kernel_rfl) (fun _ _ => by kernel_rfl) ?_))
                refine TI.all [7] (by kernel_rfl) rfl ⟨?_, trivial⟩
                refine TI.br rfl (W1.toR (W1.look (.agg #[.int .i64 e2.key.pfs, .int .i64 e2.key.obj, .int .i64 e2.key.off, .int .i64 e2.made, .int .i64 e2.gone, .string e2.val]) (by kernel_rfl) (fun w' hh => exec_loadN (cs := (cEPastRL e2)) rfl rfl (by kernel_rfl) (by kernel_rfl) (fun j u hj => (hh.box_at (i := 0) (cs := (cEPastRL e2)) (by rfl) 0 j).trans (seg_at (n := 6) (by rfl) hj))) ?_))
                refine TI.all [8] (by kernel_rfl) rfl ⟨?_, trivial⟩
                obtain ⟨q5, hX4, hX3⟩ := Option.bind_eq_some_iff.1 hX3
                refine TI.br rfl (W1R.yield 5 l1 (fun v w' => ∃ (z6 : List DElem) (k4 : Nat), q5 = (z6, k4) ∧ ∃ (A13 : Option Addr) (c13 : Nat) (V13 : View), View.le V12 V13 ∧ v = .bool (isz k4) ∧ Hp w V13 ((box b11 39 (cEPastRL e2)) :: (box b10 57 (cNPastRL e1 A6 c6 A7 c7 A8 c8 A9 c9)) :: (box b9 36 [.int .i64 p1.pfs, .int .i64 p1.obj, .int .i64 p1.off, .int .i64 0]) :: (box b8 24 [.int .i64 p0.root, .slice A1 p0.nodes.length c1]) :: (row 39 eElem A13 c13 z6) :: (loopo l1 lr1 (.exit 0) [] k4) :: (marko d1) :: (box b5 29 [.slice A13 z6.length c13]) :: (box b4 3 [.int .i64 p3]) :: (box b3 34 (cKPastRL p2)) :: G2) w') (by rfl) hl1 hl2 hl3 hl4 (by rfl) (by kernel_rfl) rfl (by kernel_rfl) rfl ?_ ?_)
                ·
                 refine T.region ?_
                 refine T.step (W1.new 39 [.int .i64 0, .int .i64 0, .int .i64 0, .int .i64 0, .int .i64 0, .string (ByteArray.mk #[])] (fun b => .pointer (some ⟨b, 0, none⟩)) (by kernel_rfl) (fun _ => by kernel_rfl) (fun b12 => ?_))
                 refine T.step (W1.store 0 (cEPastRL e2) ((box b12 39 (cEPastRL e2)) :: (box b11 39 (cEPastRL e2)) :: (box b10 57 (cNPastRL e1 A6 c6 A7 c7 A8 c8 A9 c9)) :: (box b9 36 [.int .i64 p1.pfs, .int .i64 p1.obj, .int .i64 p1.off, .int .i64 0]) :: (box b8 24 [.int .i64 p0.root, .slice A1 p0.nodes.length c1]) :: (row 39 eElem A10 c10 x3) :: (loopo l1 lr1 (.exit 0) [] 0) :: (marko d1) :: (box b5 29 [.slice A10 x3.length c10]) :: (box b4 3 [.int .i64 p3]) :: (box b3 34 (cKPastRL p2)) :: G2) (by rfl) rfl (by kernel_rfl) (fun w' hw => exec_store (vs := (cEPastRL e2)) rfl rfl rfl rfl (by kernel_rfl) (one_of rfl) (by simp) rfl hw) ?_)
                 refine T.nil ?_
                 refine T.unthenN ?_
                 refine T.begin 6 ((box b12 39 (cEPastRL e2)) :: (box b11 39 (cEPastRL e2)) :: (box b10 57 (cNPastRL e1 A6 c6 A7 c7 A8 c8 A9 c9)) :: (box b9 36 [.int .i64 p1.pfs, .int .i64 p1.obj, .int .i64 p1.off, .int .i64 0]) :: (box b8 24 [.int .i64 p0.root, .slice A1 p0.nodes.length c1]) :: (row 39 eElem A10 c10 x3) :: (busyo l1 lr1) :: (marko d1) :: (box b5 29 [.slice A10 x3.length c10]) :: (box b4 3 [.int .i64 p3]) :: (box b3 34 (cKPastRL p2)) :: G2) (by rfl) rfl ?_
                 refine T.block ?_
                 refine T.seq ?_
                 refine T.seq ?_
                 refine T.region ?_
                 refine T.pure (.pointer (some ⟨b12, 0, none⟩)) (by kernel_rfl) (fun _ => by kernel_rfl) ?_
                 refine T.look (.agg #[.int .i64 e2.key.pfs, .int .i64 e2.key.obj, .int .i64 e2.key.off]) (by kernel_rfl) (fun w' hh => exec_loadN (cs := (cKPastRL e2.key)) rfl rfl (by kernel_rfl) (by kernel_rfl) (fun j u hj => (hh.box_at (i := 0) (cs := (cEPastRL e2)) (by rfl) 0 j).trans (seg_at (n := 3) (by rfl) hj))) ?_
                 refine T.look (.agg #[.int .i64 p2.pfs, .int .i64 p2.obj, .int .i64 p2.off]) (by kernel_rfl) (fun w' hh => exec_loadN (cs := (cKPastRL p2)) rfl rfl (by kernel_rfl) (by kernel_rfl) (fun j u hj => (hh.box_at (i := 10) (cs := (cKPastRL p2)) (by rfl) 0 j).trans (seg_at (n := 3) (by rfl) hj))) ?_
                 obtain ⟨r7, hb8, hX4⟩ := Option.bind_eq_some_iff.1 hX4
                 refine T.step (W1.call (vSc eInt) r7 37 #[.agg #[.int .i64 e2.key.pfs, .int .i64 e2.key.obj, .int .i64 e2.key.off], .agg #[.int .i64 p2.pfs, .int .i64 p2.obj, .int .i64 p2.off]] (by kernel_rfl) (fun _ => by kernel_rfl) (fun w' hh => key_Cmp_l e2.key p2 r7 hb8 w' ) ?_)
                 intro u V14 hV14 hu
                 obtain rfl := sureInt _ _ _ hu
                 refine T.pure (.bool (decide ((0 : Int) < r7))) (by kernel_rfl) (fun _ => by kernel_rfl) ?_
                 refine T.nil ?_
                 refine T.cond (decide ((0 : Int) < r7)) (by kernel_rfl) (by kernel_rfl) (fun hc6 => ?_) (fun hc6 => ?_)
                 ·
                  rw [hc6, cond_true] at hX4
                  refine T.exit ?_
                  cases hX4
                  repeat first | refine T.unthenX ?_ | refine T.unblockX rfl ?_
                  exact T.roundExit (.exit 0) [] 0 6 ((box b12 39 (cEPastRL e2)) :: (box b11 39 (cEPastRL e2)) :: (box b10 57 (cNPastRL e1 A6 c6 A7 c7 A8 c8 A9 c9)) :: (box b9 36 [.int .i64 p1.pfs, .int .i64 p1.obj, .int .i64 p1.off, .int .i64 0]) :: (box b8 24 [.int .i64 p0.root, .slice A1 p0.nodes.length c1]) :: (row 39 eElem A10 c10 x3) :: (loopo l1 lr1 (.exit 0) [] (0 + 1)) :: (marko d1) :: (box b5 29 [.slice A10 x3.length c10]) :: (box b4 3 [.int .i64 p3]) :: (box b3 34 (cKPastRL p2)) :: G2) (by rfl) rfl rfl (fun w' hh => ⟨_, rfl, Exists.intro x3 (Exists.intro (0 + 1) (And.intro rfl (Exists.intro A10 (Exists.intro c10 (Exists.intro V14 (And.intro hV14 (And.intro rfl (hh.sub (.cons _ (List.Sublist.refl _))))))))))⟩)
                 ·
                  rw [hc6, cond_false] at hX4
                  refine T.skip_code ?_
                  refine T.seq ?_
                  refine T.region ?_
                  refine T.look (.agg #[.int .i64 e2.key.pfs, .int .i64 e2.key.obj, .int .i64 e2.key.off, .int .i64 e2.made, .int .i64 e2.gone, .string e2.val]) (by kernel_rfl) (fun w' hh => exec_loadN (cs := (cEPastRL e2)) rfl rfl (by kernel_rfl) (by kernel_rfl) (fun j u hj => (hh.box_at (i := 0) (cs := (cEPastRL e2)) (by rfl) 0 j).trans (seg_at (n := 6) (by rfl) hj))) ?_
                  refine T.look (.int .i64 p3) (by kernel_rfl) (fun w' hh => exec_load1 rfl rfl (by kernel_rfl) (hh.cellBox (i := 9) (by rfl) 0)) ?_
                  obtain ⟨r8, hb9, hX4⟩ := Option.bind_eq_some_iff.1 hX4
                  refine T.step (W1.call (vSc eBool) r8 51 #[.agg #[.int .i64 e2.key.pfs, .int .i64 e2.key.obj, .int .i64 e2.key.off, .int .i64 e2.made, .int .i64 e2.gone, .string e2.val], .int .i64 p3] (by kernel_rfl) (fun _ => by kernel_rfl) (fun w' hh => elem_Live_l e2 p3 r8 hb9 w' ) ?_)
                  intro u V15 hV15 hu
                  obtain rfl := sureBool _ _ _ hu
                  refine T.nil ?_
                  refine T.cond r8 (by kernel_rfl) (by kernel_rfl) (fun hc7 => ?_) (fun hc7 => ?_)
                  ·
                   rw [hc7, cond_true] at hX4
                   refine T.region ?_
                   refine T.look (.slice A10 x3.length c10) (by kernel_rfl) (fun w' hh => exec_load1 rfl rfl (by kernel_rfl) (hh.cellBox (i := 8) (by rfl) 0)) ?_
                   refine T.look (.agg #[.int .i64 e2.key.pfs, .int .i64 e2.key.obj, .int .i64 e2.key.off, .int .i64 e2.made, .int .i64 e2.gone, .string e2.val]) (by kernel_rfl) (fun w' hh => exec_loadN (cs := (cEPastRL e2)) rfl rfl (by kernel_rfl) (by kernel_rfl) (fun j u hj => (hh.box_at (i := 0) (cs := (cEPastRL e2)) (by rfl) 0 j).trans (seg_at (n := 6) (by rfl) hj))) ?_
                   refine T.step (W1.new 39 (cEPastRL e2) (fun b => .slice (some ⟨b, 0, none⟩) 1 1) (by kernel_rfl) (fun _ => by kernel_rfl) (fun b13 => ?_))
                   obtain ⟨y2, hb10, hX4⟩ := Option.bind_eq_some_iff.1 hX4
                   obtain ⟨hb10_r, hb10_m, rfl⟩ := grow_some hb10
                   obtain ⟨ti, hti, hz1, hz2, hz3⟩ := info_parts (P := Try.prog) (e := 39) (z := .agg #[.int .i64 0, .int .i64 0, .int .i64 0, .int .i64 0, .int .i64 0, .string (ByteArray.mk #[])]) (size := 6) (bytes := 56) (by kernel_rfl)
                   refine T.step (W1.append (E := eElem) (l := x3) (m := [e2]) 6 _ _ 56 ti _ (by rfl) (by kernel_rfl) rfl (by kernel_rfl) hti hz1 hz2 hz3 rfl (by decide) rfl rfl (fun w' hh => (SlOk.srcF (slok_lit (E := eElem) (f := DElem.cells) [e2] (fun _ _ => rfl) (Nat.le_of_ble_eq_true (by rfl)) (fun j => hh.cellBox (i := 0) (by rfl) j)) (fun _ _ _ _ h => h))) hb10_r hb10_m (fun A14 c14 => ?_))
                   refine T.step (W1.store 9 [.slice A14 ((x3 ++ [e2]).length) c14] ((box b13 39 (cEPastRL e2)) :: (box b12 39 (cEPastRL e2)) :: (box b11 39 (cEPastRL e2)) :: (box b10 57 (cNPastRL e1 A6 c6 A7 c7 A8 c8 A9 c9)) :: (box b9 36 [.int .i64 p1.pfs, .int .i64 p1.obj, .int .i64 p1.off, .int .i64 0]) :: (box b8 24 [.int .i64 p0.root, .slice A1 p0.nodes.length c1]) :: (row 39 eElem A14 c14 (x3 ++ [e2])) :: (busyo l1 lr1) :: (marko d1) :: (box b5 29 [.slice A14 ((x3 ++ [e2]).length) c14]) :: (box b4 3 [.int .i64 p3]) :: (box b3 34 (cKPastRL p2)) :: G2) (by rfl) rfl (by kernel_rfl) (fun w' hw => exec_store (vs := [.slice A14 ((x3 ++ [e2]).length) c14]) rfl rfl rfl rfl (by kernel_rfl) (one_of rfl) (by simp) rfl hw) ?_)
                   refine T.nil ?_
                   cases hX4
                   repeat first | refine T.unthenN ?_ | refine T.unblockN ?_
                   exact T.roundEnd (.exit 0) [] 7 ((box b13 39 (cEPastRL e2)) :: (box b12 39 (cEPastRL e2)) :: (box b11 39 (cEPastRL e2)) :: (box b10 57 (cNPastRL e1 A6 c6 A7 c7 A8 c8 A9 c9)) :: (box b9 36 [.int .i64 p1.pfs, .int .i64 p1.obj, .int .i64 p1.off, .int .i64 0]) :: (box b8 24 [.int .i64 p0.root, .slice A1 p0.nodes.length c1]) :: (row 39 eElem A14 c14 (x3 ++ [e2])) :: (loopo l1 lr1 (.exit 0) [] 0) :: (marko d1) :: (box b5 29 [.slice A14 ((x3 ++ [e2]).length) c14]) :: (box b4 3 [.int .i64 p3]) :: (box b3 34 (cKPastRL p2)) :: G2) (by rfl) rfl (fun w' hh => ⟨_, rfl, Exists.intro (x3 ++ [e2]) (Exists.intro 0 (And.intro rfl (Exists.intro A14 (Exists.intro c14 (Exists.intro V15 (And.intro (View.le_trans hV14 hV15) (And.intro rfl (hh.sub (.cons _ (.cons _ (List.Sublist.refl _)))))))))))⟩)
                  ·
                   rw [hc7, cond_false] at hX4
                   refine T.skip_code ?_
                   cases hX4
                   repeat first | refine T.unthenN ?_ | refine T.unblockN ?_
                   exact T.roundEnd (.exit 0) [] 6 ((box b12 39 (cEPastRL e2)) :: (box b11 39 (cEPastRL e2)) :: (box b10 57 (cNPastRL e1 A6 c6 A7 c7 A8 c8 A9 c9)) :: (box b9 36 [.int .i64 p1.pfs, .int .i64 p1.obj, .int .i64 p1.off, .int .i64 0]) :: (box b8 24 [.int .i64 p0.root, .slice A1 p0.nodes.length c1]) :: (row 39 eElem A10 c10 x3) :: (loopo l1 lr1 (.exit 0) [] 0) :: (marko d1) :: (box b5 29 [.slice A10 x3.length c10]) :: (box b4 3 [.int .i64 p3]) :: (box b3 34 (cKPastRL p2)) :: G2) (by rfl) rfl (fun w' hh => ⟨_, rfl, Exists.intro x3 (Exists.intro 0 (And.intro rfl (Exists.intro A10 (Exists.intro c10 (Exists.intro V15 (And.intro (View.le_trans hV14 hV15) (And.intro rfl (hh.sub (.cons _ (List.Sublist.refl _))))))))))⟩)
                ·
                 rintro v w' ⟨z6, k4, rfl, A13, c13, V13, hV13, rfl, hh⟩
                 try dsimp only at hX3
                 refine ⟨V13, ((box b11 39 (cEPastRL e2)) :: (box b10 57 (cNPastRL e1 A6 c6 A7 c7 A8 c8 A9 c9)) :: (box b9 36 [.int .i64 p1.pfs, .int .i64 p1.obj, .int .i64 p1.off, .int .i64 0]) :: (box b8 24 [.int .i64 p0.root, .slice A1 p0.nodes.length c1]) :: (row 39 eElem A13 c13 z6) :: (loopo l1 lr1 (.exit 0) [] k4) :: (marko d1) :: (box b5 29 [.slice A13 z6.length c13]) :: (box b4 3 [.int .i64 p3]) :: (box b3 34 (cKPastRL p2)) :: G2), hh, ?_⟩
                 clear hh
                 cases k4 with
                 | zero =>
                  rw [natCase_zero] at hX3
                  refine TI.all [9] (by kernel_rfl) rfl ⟨?_, trivial⟩
                  refine TI.br rfl (W1.toR (W1.look (.bool false) (by kernel_rfl) (fun _ _ => by kernel_rfl) ?_))
                  refine TI.all [10] (by kernel_rfl) rfl ⟨?_, trivial⟩
                  refine TI.br rfl (W1.toR (W1.look (.bool false) (by kernel_rfl) (fun _ _ => by kernel_rfl) ?_))
                  refine TI.done (by kernel_rfl) ?_
                  cases hX3
                  exact fun a w' hf hh => Exists.intro z6 (Exists.intro 0 (And.intro rfl (Exists.intro A13 (Exists.intro c13 (Exists.intro V13 (And.intro (View.le_trans (View.le_trans hV11 hV12) hV13) (And.intro (((((((((Fr.nil hf).pick hf 36 rfl).pick hf 22 rfl).pick hf 21 rfl).pick hf 20 rfl).pick hf 9 rfl).pick hf 6 rfl).pick hf 4 rfl).pick hf 3 rfl) (hh.sub (.cons _ (List.Sublist.refl _))))))))))
                 | succ k5 =>
                  rw [natCase_succ] at hX3
                  refine TI.all [9] (by kernel_rfl) rfl ⟨?_, trivial⟩
                  refine TI.br rfl (W1.toR (W1.look (.bool true) (by kernel_rfl) (fun _ _ => by kernel_rfl) ?_))
                  refine TI.all [10] (by kernel_rfl) rfl ⟨?_, trivial⟩
                  refine TI.br rfl (W1.toR (W1.look (.bool true) (by kernel_rfl) (fun _ _ => by kernel_rfl) ?_))
                  refine TI.done (by kernel_rfl) ?_
                  cases hX3
                  exact fun a w' hf hh => Exists.intro z6 (Exists.intro (k5 + 1) (And.intro rfl (Exists.intro A13 (Exists.intro c13 (Exists.intro V13 (And.intro (View.le_trans (View.le_trans hV11 hV12) hV13) (And.intro (((((((((Fr.nil hf).pick hf 36 rfl).pick hf 22 rfl).pick hf 21 rfl).pick hf 20 rfl).pick hf 9 rfl).pick hf 6 rfl).pick hf 4 rfl).pick hf 3 rfl) (hh.sub (.cons _ (List.Sublist.refl _))))))))))
               ·
                refine TI.br rfl (W1.toR (W1.look (.agg #[.int .i64 e2.key.pfs, .int .i64 e2.key.obj, .int .i64 e2.key.off, .int .i64 e2.made, .int .i64 e2.gone, .string e2.val]) (by kernel_rfl) (fun w' hh => exec_loadN (cs := (cEPastRL e2)) rfl rfl (by kernel_rfl) (by kernel_rfl) (fun j u hj => (hh.box_at (i := 0) (cs := (cEPastRL e2)) (by rfl) 0 j).trans (seg_at (n := 6) (by rfl) hj))) ?_))
                refine TI.all [6] (by kernel_rfl) rfl ⟨?_, trivial⟩
                refine TI.br rfl (W1.toR (W1.look (.func (.yield l1) #[] #[]) (by kernel_rfl) (fun _ _ => by kernel_rfl) ?_))
                refine TI.all [8] (by kernel_rfl) rfl ⟨?_, trivial⟩
                obtain ⟨q5, hX4, hX3⟩ := Option.bind_eq_some_iff.1 hX3
                refine TI.br rfl (W1R.yield 5 l1 (fun v w' => ∃ (z6 : List DElem) (k4 : Nat), q5 = (z6, k4) ∧ ∃ (A13 : Option Addr) (c13 : Nat) (V13 : View), View.le V12 V13 ∧ v = .bool (isz k4) ∧ Hp w V13 ((box b11 39 (cEPastRL e2)) :: (box b10 57 (cNPastRL e1 A6 c6 A7 c7 A8 c8 A9 c9)) :: (box b9 36 [.int .i64 p1.pfs, .int .i64 p1.obj, .int .i64 p1.off, .int .i64 0]) :: (box b8 24 [.int .i64 p0.root, .slice A1 p0.nodes.length c1]) :: (row 39 eElem A13 c13 z6) :: (loopo l1 lr1 (.exit 0) [] k4) :: (marko d1) :: (box b5 29 [.slice A13 z6.length c13]) :: (box b4 3 [.int .i64 p3]) :: (box b3 34 (cKPastRL p2)) :: G2) w') (by rfl) hl1 hl2 hl3 hl4 (by rfl) (by kernel_rfl) rfl (by kernel_rfl) rfl ?_ ?_)
                ·
                 refine T.region ?_
                 refine T.step (W1.new 39 [.int .i64 0, .int .i64 0, .int .i64 0, .int .i64 0, .int .i64 0, .string (ByteArray.mk #[])] (fun b => .pointer (some ⟨b, 0, none⟩)) (by kernel_rfl) (fun _ => by kernel_rfl) (fun b12 => ?_))
                 refine T.step (W1.store 0 (cEPastRL e2) ((box b12 39 (cEPastRL e2)) :: (box b11 39 (cEPastRL e2)) :: (box b10 57 (cNPastRL e1 A6 c6 A7 c7 A8 c8 A9 c9)) :: (box b9 36 [.int .i64 p1.pfs, .int .i64 p1.obj, .int .i64 p1.off, .int .i64 0]) :: (box b8 24 [.int .i64 p0.root, .slice A1 p0.nodes.length c1]) :: (row 39 eElem A10 c10 x3) :: (loopo l1 lr1 (.exit 0) [] 0) :: (marko d1) :: (box b5 29 [.slice A10 x3.length c10]) :: (box b4 3 [.int .i64 p3]) :: (box b3 34 (cKPastRL p2)) :: G2) (by rfl) rfl (by kernel_rfl) (fun w' hw => exec_store (vs := (cEPastRL e2)) rfl rfl rfl rfl (by kernel_rfl) (one_of rfl) (by simp) rfl hw) ?_)
                 refine T.nil ?_
                 refine T.unthenN ?_
                 refine T.begin 6 ((box b12 39 (cEPastRL e2)) :: (box b11 39 (cEPastRL e2)) :: (box b10 57 (cNPastRL e1 A6 c6 A7 c7 A8 c8 A9 c9)) :: (box b9 36 [.int .i64 p1.pfs, .int .i64 p1.obj, .int .i64 p1.off, .int .i64 0]) :: (box b8 24 [.int .i64 p0.root, .slice A1 p0.nodes.length c1]) :: (row 39 eElem A10 c10 x3) :: (busyo l1 lr1) :: (marko d1) :: (box b5 29 [.slice A10 x3.length c10]) :: (box b4 3 [.int .i64 p3]) :: (box b3 34 (cKPastRL p2)) :: G2) (by rfl) rfl ?_
                 refine T.block ?_
                 refine T.seq ?_
                 refine T.seq ?_
                 refine T.region ?_
                 refine T.pure (.pointer (some ⟨b12, 0, none⟩)) (by kernel_rfl) (fun _ => by kernel_rfl) ?_
                 refine T.look (.agg #[.int .i64 e2.key.pfs, .int .i64 e2.key.obj, .int .i64 e2.key.off]) (by kernel_rfl) (fun w' hh => exec_loadN (cs := (cKPastRL e2.key)) rfl rfl (by kernel_rfl) (by kernel_rfl) (fun j u hj => (hh.box_at (i := 0) (cs := (cEPastRL e2)) (by rfl) 0 j).trans (seg_at (n := 3) (by rfl) hj))) ?_
                 refine T.look (.agg #[.int .i64 p2.pfs, .int .i64 p2.obj, .int .i64 p2.off]) (by kernel_rfl) (fun w' hh => exec_loadN (cs := (cKPastRL p2)) rfl rfl (by kernel_rfl) (by kernel_rfl) (fun j u hj => (hh.box_at (i := 10) (cs := (cKPastRL p2)) (by rfl) 0 j).trans (seg_at (n := 3) (by rfl) hj))) ?_
                 obtain ⟨r7, hb8, hX4⟩ := Option.bind_eq_some_iff.1 hX4
                 refine T.step (W1.call (vSc eInt) r7 37 #[.agg #[.int .i64 e2.key.pfs, .int .i64 e2.key.obj, .int .i64 e2.key.off], .agg #[.int .i64 p2.pfs, .int .i64 p2.obj, .int .i64 p2.off]] (by kernel_rfl) (fun _ => by kernel_rfl) (fun w' hh => key_Cmp_l e2.key p2 r7 hb8 w' ) ?_)
                 intro u V14 hV14 hu
                 obtain rfl := sureInt _ _ _ hu
                 refine T.pure (.bool (decide ((0 : Int) < r7))) (by kernel_rfl) (fun _ => by kernel_rfl) ?_
                 refine T.nil ?_
                 refine T.cond (decide ((0 : Int) < r7)) (by kernel_rfl) (by kernel_rfl) (fun hc6 => ?_) (fun hc6 => ?_)
                 ·
                  rw [hc6, cond_true] at hX4
                  refine T.exit ?_
                  cases hX4
                  repeat first | refine T.unthenX ?_ | refine T.unblockX rfl ?_
                  exact T.roundExit (.exit 0) [] 0 6 ((box b12 39 (cEPastRL e2)) :: (box b11 39 (cEPastRL e2)) :: (box b10 57 (cNPastRL e1 A6 c6 A7 c7 A8 c8 A9 c9)) :: (box b9 36 [.int .i64 p1.pfs, .int .i64 p1.obj, .int .i64 p1.off, .int .i64 0]) :: (box b8 24 [.int .i64 p0.root, .slice A1 p0.nodes.length c1]) :: (row 39 eElem A10 c10 x3) :: (loopo l1 lr1 (.exit 0) [] (0 + 1)) :: (marko d1) :: (box b5 29 [.slice A10 x3.length c10]) :: (box b4 3 [.int .i64 p3]) :: (box b3 34 (cKPastRL p2)) :: G2) (by rfl) rfl rfl (fun w' hh => ⟨_, rfl, Exists.intro x3 (Exists.intro (0 + 1) (And.intro rfl (Exists.intro A10 (Exists.intro c10 (Exists.intro V14 (And.intro hV14 (And.intro rfl (hh.sub (.cons _ (List.Sublist.refl _))))))))))⟩)
                 ·
                  rw [hc6, cond_false] at hX4
                  refine T.skip_code ?_
                  refine T.seq ?_
                  refine T.region ?_
                  refine T.look (.agg #[.int .i64 e2.key.pfs, .int .i64 e2.key.obj, .int .i64 e2.key.off, .int .i64 e2.made, .int .i64 e2.gone, .string e2.val]) (by kernel_rfl) (fun w' hh => exec_loadN (cs := (cEPastRL e2)) rfl rfl (by kernel_rfl) (by kernel_rfl) (fun j u hj => (hh.box_at (i := 0) (cs := (cEPastRL e2)) (by rfl) 0 j).trans (seg_at (n := 6) (by rfl) hj))) ?_
                  refine T.look (.int .i64 p3) (by kernel_rfl) (fun w' hh => exec_load1 rfl rfl (by kernel_rfl) (hh.cellBox (i := 9) (by rfl) 0)) ?_
                  obtain ⟨r8, hb9, hX4⟩ := Option.bind_eq_some_iff.1 hX4
                  refine T.step (W1.call (vSc eBool) r8 51 #[.agg #[.int .i64 e2.key.pfs, .int .i64 e2.key.obj, .int .i64 e2.key.off, .int .i64 e2.made, .int .i64 e2.gone, .string e2.val], .int .i64 p3] (by kernel_rfl) (fun _ => by kernel_rfl) (fun w' hh => elem_Live_l e2 p3 r8 hb9 w' ) ?_)
                  intro u V15 hV15 hu
                  obtain rfl := sureBool _ _ _ hu
                  refine T.nil ?_
                  refine T.cond r8 (by kernel_rfl) (by kernel_rfl) (fun hc7 => ?_) (fun hc7 => ?_)
                  ·
                   rw [hc7, cond_true] at hX4
                   refine T.region ?_
                   refine T.look (.slice A10 x3.length c10) (by kernel_rfl) (fun w' hh => exec_load1 rfl rfl (by kernel_rfl) (hh.cellBox (i := 8) (by rfl) 0)) ?_
                   refine T.look (.agg #[.int .i64 e2.key.pfs, .int .i64 e2.key.obj, .int .i64 e2.key.off, .int .i64 e2.made, .int .i64 e2.gone, .string e2.val]) (by kernel_rfl) (fun w' hh => exec_loadN (cs := (cEPastRL e2)) rfl rfl (by kernel_rfl) (by kernel_rfl) (fun j u hj => (hh.box_at (i := 0) (cs := (cEPastRL e2)) (by rfl) 0 j).trans (seg_at (n := 6) (by rfl) hj))) ?_
                   refine T.step (W1.new 39 (cEPastRL e2) (fun b => .slice (some ⟨b, 0, none⟩) 1 1) (by kernel_rfl) (fun _ => by kernel_rfl) (fun b13 => ?_))
                   obtain ⟨y2, hb10, hX4⟩ := Option.bind_eq_some_iff.1 hX4
                   obtain ⟨hb10_r, hb10_m, rfl⟩ := grow_some hb10
                   obtain ⟨ti, hti, hz1, hz2, hz3⟩ := info_parts (P := Try.prog) (e := 39) (z := .agg #[.int .i64 0, .int .i64 0, .int .i64 0, .int .i64 0, .int .i64 0, .string (ByteArray.mk #[])]) (size := 6) (bytes := 56) (by kernel_rfl)
                   refine T.step (W1.append (E := eElem) (l := x3) (m := [e2]) 6 _ _ 56 ti _ (by rfl) (by kernel_rfl) rfl (by kernel_rfl) hti hz1 hz2 hz3 rfl (by decide) rfl rfl (fun w' hh => (SlOk.srcF (slok_lit (E := eElem) (f := DElem.cells) [e2] (fun _ _ => rfl) (Nat.le_of_ble_eq_true (by rfl)) (fun j => hh.cellBox (i := 0) (by rfl) j)) (fun _ _ _ _ h => h))) hb10_r hb10_m (fun A14 c14 => ?_))
                   refine T.step (W1.store 9 [.slice A14 ((x3 ++ [e2]).length) c14] ((box b13 39 (cEPastRL e2)) :: (box b12 39 (cEPastRL e2)) :: (box b11 39 (cEPastRL e2)) :: (box b10 57 (cNPastRL e1 A6 c6 A7 c7 A8 c8 A9 c9)) :: (box b9 36 [.int .i64 p1.pfs, .int .i64 p1.obj, .int .i64 p1.off, .int .i64 0]) :: (box b8 24 [.int .i64 p0.root, .slice A1 p0.nodes.length c1]) :: (row 39 eElem A14 c14 (x3 ++ [e2])) :: (busyo l1 lr1) :: (marko d1) :: (box b5 29 [.slice A14 ((x3 ++ [e2]).length) c14]) :: (box b4 3 [.int .i64 p3]) :: (box b3 34 (cKPastRL p2)) :: G2) (by rfl) rfl (by kernel_rfl) (fun w' hw => exec_store (vs := [.slice A14 ((x3 ++ [e2]).length) c14]) rfl rfl rfl rfl (by kernel_rfl) (one_of rfl) (by simp) rfl hw) ?_)
                   refine T.nil ?_
                   cases hX4
                   repeat first | refine T.unthenN ?_ | refine T.unblockN ?_
                   exact T.roundEnd (.exit 0) [] 7 ((box b13 39 (cEPastRL e2)) :: (box b12 39 (cEPastRL e2)) :: (box b11 39 (cEPastRL e2)) :: (box b10 57 (cNPastRL e1 A6 c6 A7 c7 A8 c8 A9 c9)) :: (box b9 36 [.int .i64 p1.pfs, .int .i64 p1.obj, .int .i64 p1.off, .int .i64 0]) :: (box b8 24 [.int .i64 p0.root, .slice A1 p0.nodes.length c1]) :: (row 39 eElem A14 c14 (x3 ++ [e2])) :: (loopo l1 lr1 (.exit 0) [] 0) :: (marko d1) :: (box b5 29 [.slice A14 ((x3 ++ [e2]).length) c14]) :: (box b4 3 [.int .i64 p3]) :: (box b3 34 (cKPastRL p2)) :: G2) (by rfl) rfl (fun w' hh => ⟨_, rfl, Exists.intro (x3 ++ [e2]) (Exists.intro 0 (And.intro rfl (Exists.intro A14 (Exists.intro c14 (Exists.intro V15 (And.intro (View.le_trans hV14 hV15) (And.intro rfl (hh.sub (.cons _ (.cons _ (List.Sublist.refl _)))))))))))⟩)
                  ·
                   rw [hc7, cond_false] at hX4
                   refine T.skip_code ?_
                   cases hX4
                   repeat first | refine T.unthenN ?_ | refine T.unblockN ?_
                   exact T.roundEnd (.exit 0) [] 6 ((box b12 39 (cEPastRL e2)) :: (box b11 39 (cEPastRL e2)) :: (box b10 57 (cNPastRL e1 A6 c6 A7 c7 A8 c8 A9 c9)) :: (box b9 36 [.int .i64 p1.pfs, .int .i64 p1.obj, .int .i64 p1.off, .int .i64 0]) :: (box b8 24 [.int .i64 p0.root, .slice A1 p0.nodes.length c1]) :: (row 39 eElem A10 c10 x3) :: (loopo l1 lr1 (.exit 0) [] 0) :: (marko d1) :: (box b5 29 [.slice A10 x3.length c10]) :: (box b4 3 [.int .i64 p3]) :: (box b3 34 (cKPastRL p2)) :: G2) (by rfl) rfl (fun w' hh => ⟨_, rfl, Exists.intro x3 (Exists.intro 0 (And.intro rfl (Exists.intro A10 (Exists.intro c10 (Exists.intro V15 (And.intro (View.le_trans hV14 hV15) (And.intro rfl (hh.sub (.cons _ (List.Sublist.refl _))))))))))⟩)
                ·
                 rintro v w' ⟨z6, k4, rfl, A13, c13, V13, hV13, rfl, hh⟩
                 try dsimp only at hX3
                 refine ⟨V13, ((box b11 39 (cEPastRL e2)) :: (box b10 57 (cNPastRL e1 A6 c6 A7 c7 A8 c8 A9 c9)) :: (box b9 36 [.int .i64 p1.pfs, .int .i64 p1.obj, .int .i64 p1.off, .int .i64 0]) :: (box b8 24 [.int .i64 p0.root, .slice A1 p0.nodes.length c1]) :: (row 39 eElem A13 c13 z6) :: (loopo l1 lr1 (.exit 0) [] k4) :: (marko d1) :: (box b5 29 [.slice A13 z6.length c13]) :: (box b4 3 [.int .i64 p3]) :: (box b3 34 (cKPastRL p2)) :: G2), hh, ?_⟩
                 clear hh
                 cases k4 with
                 | zero =>
                  rw [natCase_zero] at hX3
                  refine TI.all [9] (by kernel_rfl) rfl ⟨?_, trivial⟩
                  refine TI.br rfl (W1.toR (W1.look (.bool false) (by kernel_rfl) (fun _ _ => by kernel_rfl) ?_))
                  refine TI.all [10] (by kernel_rfl) rfl ⟨?_, trivial⟩
                  refine TI.br rfl (W1.toR (W1.look (.bool false) (by kernel_rfl) (fun _ _ => by kernel_rfl) ?_))
                  refine TI.done (by kernel_rfl) ?_
                  cases hX3
                  exact fun a w' hf hh => Exists.intro z6 (Exists.intro 0 (And.intro rfl (Exists.intro A13 (Exists.intro c13 (Exists.intro V13 (And.intro (View.le_trans (View.le_trans hV11 hV12) hV13) (And.intro (((((((((Fr.nil hf).pick hf 36 rfl).pick hf 22 rfl).pick hf 21 rfl).pick hf 20 rfl).pick hf 9 rfl).pick hf 6 rfl).pick hf 4 rfl).pick hf 3 rfl) (hh.sub (.cons _ (List.Sublist.refl _))))))))))
                 | succ k5 =>
                  rw [natCase_succ] at hX3
                  refine TI.all [9] (by kernel_rfl) rfl ⟨?_, trivial⟩
                  refine TI.br rfl (W1.toR (W1.look (.bool true) (by kernel_rfl) (fun _ _ => by kernel_rfl) ?_))
                  refine TI.all [10] (by kernel_rfl) rfl ⟨?_, trivial⟩
                  refine TI.br rfl (W1.toR (W1.look (.bool true) (by kernel_rfl) (fun _ _ => by kernel_rfl) ?_))
                  refine TI.done (by kernel_rfl) ?_
                  cases hX3
                  exact fun a w' hf hh => Exists.intro z6 (Exists.intro (k5 + 1) (And.intro rfl (Exists.intro A13 (Exists.intro c13 (Exists.intro V13 (And.intro (View.le_trans (View.le_trans hV11 hV12) hV13) (And.intro (((((((((Fr.nil hf).pick hf 36 rfl).pick hf 22 rfl).pick hf 21 rfl).pick hf 20 rfl).pick hf 9 rfl).pick hf 6 rfl).pick hf 4 rfl).pick hf 3 rfl) (hh.sub (.cons _ (List.Sublist.refl _))))))))))
            ·
             refine TI.br rfl (W1.toR (W1.look (.agg #[.int .i64 p1.pfs, .int .i64 p1.obj, .int .i64 p1.off, .int .i64 0]) (by kernel_rfl) (fun w' hh => exec_loadN (cs := [.int .i64 p1.pfs, .int .i64 p1.obj, .int .i64 p1.off, .int .i64 0]) rfl rfl (by kernel_rfl) (by kernel_rfl) (fun j u hj => (hh.box_at (i := 2) (cs := [.int .i64 p1.pfs, .int .i64 p1.obj, .int .i64 p1.off, .int .i64 0]) (by rfl) 0 j).trans (seg_at (n := 4) (by rfl) hj))) ?_))
             refine TI.all [0] (by kernel_rfl) rfl ⟨?_, trivial⟩
             refine TI.br rfl (W1.toR (W1.look (.agg #[.int .i64 e2.key.pfs, .int .i64 e2.key.obj, .int .i64 e2.key.off, .int .i64 e2.made, .int .i64 e2.gone, .string e2.val]) (by kernel_rfl) (fun w' hh => exec_loadN (cs := (cEPastRL e2)) rfl rfl (by kernel_rfl) (by kernel_rfl) (fun j u hj => (hh.box_at (i := 0) (cs := (cEPastRL e2)) (by rfl) 0 j).trans (seg_at (n := 6) (by rfl) hj))) ?_))
             refine TI.all [1] (by kernel_rfl) rfl ⟨?_, trivial⟩
             obtain ⟨r5, hb6, hX3⟩ := Option.bind_eq_some_iff.1 hX3
             refine TI.br rfl <| W1.toR (W1.call (vAg eSpot) r5 15 #[.agg #[.int .i64 e2.key.pfs, .int .i64 e2.key.obj, .int .i64 e2.key.off, .int .i64 e2.made, .int .i64 e2.gone, .string e2.val]] (by kernel_rfl) (fun _ => by kernel_rfl) (fun w' hh => elem_Spot_l e2 r5 hb6 w' ) ?_)
             intro u V11 hV11 hu
             obtain rfl := sureSpot _ _ _ hu
             refine TI.all [3] (by kernel_rfl) rfl ⟨?_, trivial⟩
             obtain ⟨r6, hb7, hX3⟩ := Option.bind_eq_some_iff.1 hX3
             refine TI.br rfl <| W1.toR (W1.call (vSc eInt) r6 14 #[.agg #[.int .i64 r5.key.pfs, .int .i64 r5.key.obj, .int .i64 r5.key.off, .int .i64 r5.made], .agg #[.int .i64 p1.pfs, .int .i64 p1.obj, .int .i64 p1.off, .int .i64 0]] (by kernel_rfl) (fun _ => by kernel_rfl) (fun w' hh => key_CmpSpot_l r5 (DSpot.mk p1 0) r6 hb7 w' ) ?_)
             intro u V12 hV12 hu
             obtain rfl := sureInt _ _ _ hu
             refine TI.all [4] (by kernel_rfl) rfl ⟨?_, trivial⟩
             refine TI.br rfl (W1.toR (W1.look (.bool (decide ((0 : Int) ≤ r6))) (by kernel_rfl) (fun _ _ => by kernel_rfl) ?_))
             refine TI.all [5] (by kernel_rfl) rfl ⟨?_, trivial⟩
             refine TI.br rfl (W1.toR (W1.look (.bool (decide ((0 : Int) ≤ r6))) (by kernel_rfl) (fun _ _ => by kernel_rfl) ?_))
             cases hg1 : decide ((0 : Int) ≤ r6)
             ·
              rw [hg1, cond_false] at hX3
              refine TI.all [6, 7] (by kernel_rfl) rfl ⟨?_, ?_, trivial⟩
              ·
               refine TI.no rfl (by kernel_rfl) (by kernel_rfl) ?_
               refine TI.all [7] (by kernel_rfl) rfl ⟨?_, trivial⟩
               refine TI.no rfl (by kernel_rfl) (by kernel_rfl) ?_
               refine TI.all [8] (by kernel_rfl) rfl ⟨?_, trivial⟩
               refine TI.no rfl (by kernel_rfl) (by kernel_rfl) ?_
               refine TI.all [9] (by kernel_rfl) rfl ⟨?_, trivial⟩
               refine TI.no rfl (by kernel_rfl) (by kernel_rfl) ?_
               refine TI.all [10] (by kernel_rfl) rfl ⟨?_, trivial⟩
               refine TI.br rfl (W1.toR (W1.look (.bool false) (by kernel_rfl) (fun _ _ => by kernel_rfl) ?_))
               refine TI.done (by kernel_rfl) ?_
               cases hX3
               exact fun a w' hf hh => Exists.intro x3 (Exists.intro 0 (And.intro rfl (Exists.intro A10 (Exists.intro c10 (Exists.intro V12 (And.intro (View.le_trans hV11 hV12) (And.intro (((((((((Fr.nil hf).pick hf 36 rfl).pick hf 22 rfl).pick hf 21 rfl).pick hf 20 rfl).pick hf 9 rfl).pick hf 6 rfl).pick hf 4 rfl).pick hf 3 rfl) (hh.sub (.cons _ (List.Sublist.refl _))))))))))
              ·
               refine TI.no rfl (by kernel_rfl) (by kernel_rfl) ?_
               refine TI.all [6] (by kernel_rfl) rfl ⟨?_, trivial⟩
               refine TI.no rfl (by kernel_rfl) (by kernel_rfl) ?_
               refine TI.all [8] (by kernel_rfl) rfl ⟨?_, trivial⟩
               refine TI.no rfl (by kernel_rfl) (by kernel_rfl) ?_
               refine TI.all [9] (by kernel_rfl) rfl ⟨?_, trivial⟩
               refine TI.no rfl (by kernel_rfl) (by kernel_rfl) ?_
               refine TI.all [10] (by kernel_rfl) rfl ⟨?_, trivial⟩
               refine TI.br rfl (W1.toR (W1.look (.bool false) (by kernel_rfl) (fun _ _ => by kernel_rfl) ?_))
               refine TI.done (by kernel_rfl) ?_
               cases hX3
               exact fun a w' hf hh => Exists.intro x3 (Exists.intro 0 (And.intro rfl (Exists.intro A10 (Exists.intro c10 (Exists.intro V12 (And.intro (View.le_trans hV11 hV12) (And.intro (((((((((Fr.nil hf).pick hf 36 rfl).pick hf 22 rfl).pick hf 21 rfl).pick hf 20 rfl).pick hf 9 rfl).pick hf 6 rfl).pick hf 4 rfl).pick hf 3 rfl) (hh.sub (.cons _ (List.Sublist.refl _))))))))))
             ·
              rw [hg1, cond_true] at hX3
              refine TI.all [6, 7] (by kernel_rfl) rfl ⟨?_, ?_, trivial⟩
              ·
               refine TI.br rfl (W1.toR (W1.look (.func (.yield l1) #[] #[]) (by kernel_rfl) (fun _ _ => by kernel_rfl) ?_))
               refine TI.all [7] (by kernel_rfl) rfl ⟨?_, trivial⟩
               refine TI.br rfl (W1.toR (W1.look (.agg #[.int .i64 e2.key.pfs, .int .i64 e2.key.obj, .int .i64 e2.key.off, .int .i64 e2.made, .int .i64 e2.gone, .string e2.val]) (by kernel_rfl) (fun w' hh => exec_loadN (cs := (cEPastRL e2)) rfl rfl (by kernel_rfl) (by kernel_rfl) (fun j u hj => (hh.box_at (i := 0) (cs := (cEPastRL e2)) (by rfl) 0 j).trans (seg_at (n := 6) (by rfl) hj))) ?_))
               refine TI.all [8] (by kernel_rfl) rfl ⟨?_, trivial⟩
               obtain ⟨q5, hX4, hX3⟩ := Option.bind_eq_some_iff.1 hX3
               refine TI.br rfl (W1R.yield 5 l1 (fun v w' => ∃ (z6 : List DElem) (k4 : Nat), q5 = (z6, k4) ∧ ∃ (A13 : Option Addr) (c13 : Nat) (V13 : View), View.le V12 V13 ∧ v = .bool (isz k4) ∧ Hp w V13 ((box b11 39 (cEPastRL e2)) :: (box b10 57 (cNPastRL e1 A6 c6 A7 c7 A8 c8 A9 c9)) :: (box b9 36 [.int .i64 p1.pfs, .int .i64 p1.obj, .int .i64 p1.off, .int .i64 0]) :: (box b8 24 [.int .i64 p0.root, .slice A1 p0.nodes.length c1]) :: (row 39 eElem A13 c13 z6) :: (loopo l1 lr1 (.exit 0) [] k4) :: (marko d1) :: (box b5 29 [.slice A13 z6.length c13]) :: (box b4 3 [.int .i64 p3]) :: (box b3 34 (cKPastRL p2)) :: G2) w') (by rfl) hl1 hl2 hl3 hl4 (by rfl) (by kernel_rfl) rfl (by kernel_rfl) rfl ?_ ?_)
               ·
                refine T.region ?_
                refine T.step (W1.new 39 [.int .i64 0, .int .i64 0, .int .i64 0, .int .i64 0, .int .i64 0, .string (ByteArray.mk #[])] (fun b => .pointer (some ⟨b, 0, none⟩)) (by kernel_rfl) (fun _ => by kernel_rfl) (fun b12 => ?_))
                refine T.step (W1.store 0 (cEPastRL e2) ((box b12 39 (cEPastRL e2)) :: (box b11 39 (cEPastRL e2)) :: (box b10 57 (cNPastRL e1 A6 c6 A7 c7 A8 c8 A9 c9)) :: (box b9 36 [.int .i64 p1.pfs, .int .i64 p1.obj, .int .i64 p1.off, .int .i64 0]) :: (box b8 24 [.int .i64 p0.root, .slice A1 p0.nodes.length c1]) :: (row 39 eElem A10 c10 x3) :: (loopo l1 lr1 (.exit 0) [] 0) :: (marko d1) :: (box b5 29 [.slice A10 x3.length c10]) :: (box b4 3 [.int .i64 p3]) :: (box b3 34 (cKPastRL p2)) :: G2) (by rfl) rfl (by kernel_rfl) (fun w' hw => exec_store (vs := (cEPastRL e2)) rfl rfl rfl rfl (by kernel_rfl) (one_of rfl) (by simp) rfl hw) ?_)
                refine T.nil ?_
                refine T.unthenN ?_
                refine T.begin 6 ((box b12 39 (cEPastRL e2)) :: (box b11 39 (cEPastRL e2)) :: (box b10 57 (cNPastRL e1 A6 c6 A7 c7 A8 c8 A9 c9)) :: (box b9 36 [.int .i64 p1.pfs, .int .i64 p1.obj, .int .i64 p1.off, .int .i64 0]) :: (box b8 24 [.int .i64 p0.root, .slice A1 p0.nodes.length c1]) :: (row 39 eElem A10 c10 x3) :: (busyo l1 lr1) :: (marko d1) :: (box b5 29 [.slice A10 x3.length c10]) :: (box b4 3 [.int .i64 p3]) :: (box b3 34 (cKPastRL p2)) :: G2) (by rfl) rfl ?_
                refine T.block ?_
                refine T.seq ?_
                refine T.seq ?_
                refine T.region ?_
                refine T.pure (.pointer (some ⟨b12, 0, none⟩)) (by kernel_rfl) (fun _ => by kernel_rfl) ?_
                refine T.look (.agg #[.int .i64 e2.key.pfs, .int .i64 e2.key.obj, .int .i64 e2.key.off]) (by kernel_rfl) (fun w' hh => exec_loadN (cs := (cKPastRL e2.key)) rfl rfl (by kernel_rfl) (by kernel_rfl) (fun j u hj => (hh.box_at (i := 0) (cs := (cEPastRL e2)) (by rfl) 0 j).trans (seg_at (n := 3) (by rfl) hj))) ?_
                refine T.look (.agg #[.int .i64 p2.pfs, .int .i64 p2.obj, .int .i64 p2.off]) (by kernel_rfl) (fun w' hh => exec_loadN (cs := (cKPastRL p2)) rfl rfl (by kernel_rfl) (by kernel_rfl) (fun j u hj => (hh.box_at (i := 10) (cs := (cKPastRL p2)) (by rfl) 0 j).trans (seg_at (n := 3) (by rfl) hj))) ?_
                obtain ⟨r7, hb8, hX4⟩ := Option.bind_eq_some_iff.1 hX4
                refine T.step (W1.call (vSc eInt) r7 37 #[.agg #[.int .i64 e2.key.pfs, .int .i64 e2.key.obj, .int .i64 e2.key.off], .agg #[.int .i64 p2.pfs, .int .i64 p2.obj, .int .i64 p2.off]] (by kernel_rfl) (fun _ => by kernel_rfl) (fun w' hh => key_Cmp_l e2.key p2 r7 hb8 w' ) ?_)
                intro u V14 hV14 hu
                obtain rfl := sureInt _ _ _ hu
                refine T.pure (.bool (decide ((0 : Int) < r7))) (by kernel_rfl) (fun _ => by kernel_rfl) ?_
                refine T.nil ?_
                refine T.cond (decide ((0 : Int) < r7)) (by kernel_rfl) (by kernel_rfl) (fun hc6 => ?_) (fun hc6 => ?_)
                ·
                 rw [hc6, cond_true] at hX4
                 refine T.exit ?_
                 cases hX4
                 repeat first | refine T.unthenX ?_ | refine T.unblockX rfl ?_
                 exact T.roundExit (.exit 0) [] 0 6 ((box b12 39 (cEPastRL e2)) :: (box b11 39 (cEPastRL e2)) :: (box b10 57 (cNPastRL e1 A6 c6 A7 c7 A8 c8 A9 c9)) :: (box b9 36 [.int .i64 p1.pfs, .int .i64 p1.obj, .int .i64 p1.off, .int .i64 0]) :: (box b8 24 [.int .i64 p0.root, .slice A1 p0.nodes.length c1]) :: (row 39 eElem A10 c10 x3) :: (loopo l1 lr1 (.exit 0) [] (0 + 1)) :: (marko d1) :: (box b5 29 [.slice A10 x3.length c10]) :: (box b4 3 [.int .i64 p3]) :: (box b3 34 (cKPastRL p2)) :: G2) (by rfl) rfl rfl (fun w' hh => ⟨_, rfl, Exists.intro x3 (Exists.intro (0 + 1) (And.intro rfl (Exists.intro A10 (Exists.intro c10 (Exists.intro V14 (And.intro hV14 (And.intro rfl (hh.sub (.cons _ (List.Sublist.refl _))))))))))⟩)
                ·
                 rw [hc6, cond_false] at hX4
                 refine T.skip_code ?_
                 refine T.seq ?_
                 refine T.region ?_
                 refine T.look (.agg #[.int .i64 e2.key.pfs, .int .i64 e2.key.obj, .int .i64 e2.key.off, .int .i64 e2.made, .int .i64 e2.gone, .string e2.val]) (by kernel_rfl) (fun w' hh => exec_loadN (cs := (cEPastRL e2)) rfl rfl (by kernel_rfl) (by kernel_rfl) (fun j u hj => (hh.box_at (i := 0) (cs := (cEPastRL e2)) (by rfl) 0 j).trans (seg_at (n := 6) (by rfl) hj))) ?_
                 refine T.look (.int .i64 p3) (by kernel_rfl) (fun w' hh => exec_load1 rfl rfl (by kernel_rfl) (hh.cellBox (i := 9) (by rfl) 0)) ?_
                 obtain ⟨r8, hb9, hX4⟩ := Option.bind_eq_some_iff.1 hX4
                 refine T.step (W1.call (vSc eBool) r8 51 #[.agg #[.int .i64 e2.key.pfs, .int .i64 e2.key.obj, .int .i64 e2.key.off, .int .i64 e2.made, .int .i64 e2.gone, .string e2.val], .int .i64 p3] (by kernel_rfl) (fun _ => by kernel_rfl) (fun w' hh => elem_Live_l e2 p3 r8 hb9 w' ) ?_)
                 intro u V15 hV15 hu
                 obtain rfl := sureBool _ _ _ hu
                 refine T.nil ?_
                 refine T.cond r8 (by kernel_rfl) (by kernel_rfl) (fun hc7 => ?_) (fun hc7 => ?_)
                 ·
                  rw [hc7, cond_true] at hX4
                  refine T.region ?_
                  refine T.look (.slice A10 x3.length c10) (by kernel_rfl) (fun w' hh => exec_load1 rfl rfl (by kernel_rfl) (hh.cellBox (i := 8) (by rfl) 0)) ?_
                  refine T.look (.agg #[.int .i64 e2.key.pfs, .int .i64 e2.key.obj, .int .i64 e2.key.off, .int .i64 e2.made, .int .i64 e2.gone, .string e2.val]) (by kernel_rfl) (fun w' hh => exec_loadN (cs := (cEPastRL e2)) rfl rfl (by kernel_rfl) (by kernel_rfl) (fun j u hj => (hh.box_at (i := 0) (cs := (cEPastRL e2)) (by rfl) 0 j).trans (seg_at (n := 6) (by rfl) hj))) ?_
                  refine T.step (W1.new 39 (cEPastRL e2) (fun b => .slice (some ⟨b, 0, none⟩) 1 1) (by kernel_rfl) (fun _ => by kernel_rfl) (fun b13 => ?_))
                  obtain ⟨y2, hb10, hX4⟩ := Option.bind_eq_some_iff.1 hX4
                  obtain ⟨hb10_r, hb10_m, rfl⟩ := grow_some hb10
                  obtain ⟨ti, hti, hz1, hz2, hz3⟩ := info_parts (P := Try.prog) (e := 39) (z := .agg #[.int .i64 0, .int .i64 0, .int .i64 0, .int .i64 0, .int .i64 0, .string (ByteArray.mk #[])]) (size := 6) (bytes := 56) (by kernel_rfl)
                  refine T.step (W1.append (E := eElem) (l := x3) (m := [e2]) 6 _ _ 56 ti _ (by rfl) (by kernel_rfl) rfl (by kernel_rfl) hti hz1 hz2 hz3 rfl (by decide) rfl rfl (fun w' hh => (SlOk.srcF (slok_lit (E := eElem) (f := DElem.cells) [e2] (fun _ _ => rfl) (Nat.le_of_ble_eq_true (by rfl)) (fun j => hh.cellBox (i := 0) (by rfl) j)) (fun _ _ _ _ h => h))) hb10_r hb10_m (fun A14 c14 => ?_))
                  refine T.step (W1.store 9 [.slice A14 ((x3 ++ [e2]).length) c14] ((box b13 39 (cEPastRL e2)) :: (box b12 39 (cEPastRL e2)) :: (box b11 39 (cEPastRL e2)) :: (box b10 57 (cNPastRL e1 A6 c6 A7 c7 A8 c8 A9 c9)) :: (box b9 36 [.int .i64 p1.pfs, .int .i64 p1.obj, .int .i64 p1.off, .int .i64 0]) :: (box b8 24 [.int .i64 p0.root, .slice A1 p0.nodes.length c1]) :: (row 39 eElem A14 c14 (x3 ++ [e2])) :: (busyo l1 lr1) :: (marko d1) :: (box b5 29 [.slice A14 ((x3 ++ [e2]).length) c14]) :: (box b4 3 [.int .i64 p3]) :: (box b3 34 (cKPastRL p2)) :: G2) (by rfl) rfl (by kernel_rfl) (fun w' hw => exec_store (vs := [.slice A14 ((x3 ++ [e2]).length) c14]) rfl rfl rfl rfl (by kernel_rfl) (one_of rfl) (by simp) rfl hw) ?_)
                  refine T.nil ?_
                  cases hX4
                  repeat first | refine T.unthenN ?_ | refine T.unblockN ?_
                  exact T.roundEnd (.exit 0) [] 7 ((box b13 39 (cEPastRL e2)) :: (box b12 39 (cEPastRL e2)) :: (box b11 39 (cEPastRL e2)) :: (box b10 57 (cNPastRL e1 A6 c6 A7 c7 A8 c8 A9 c9)) :: (box b9 36 [.int .i64 p1.pfs, .int .i64 p1.obj, .int .i64 p1.off, .int .i64 0]) :: (box b8 24 [.int .i64 p0.root, .slice A1 p0.nodes.length c1]) :: (row 39 eElem A14 c14 (x3 ++ [e2])) :: (loopo l1 lr1 (.exit 0) [] 0) :: (marko d1) :: (box b5 29 [.slice A14 ((x3 ++ [e2]).length) c14]) :: (box b4 3 [.int .i64 p3]) :: (box b3 34 (cKPastRL p2)) :: G2) (by rfl) rfl (fun w' hh => ⟨_, rfl, Exists.intro (x3 ++ [e2]) (Exists.intro 0 (And.intro rfl (Exists.intro A14 (Exists.intro c14 (Exists.intro V15 (And.intro (View.le_trans hV14 hV15) (And.intro rfl (hh.sub (.cons _ (.cons _ (List.Sublist.refl _)))))))))))⟩)
                 ·
                  rw [hc7, cond_false] at hX4
                  refine T.skip_code ?_
                  cases hX4
                  repeat first | refine T.unthenN ?_ | refine T.unblockN ?_
                  exact T.roundEnd (.exit 0) [] 6 ((box b12 39 (cEPastRL e2)) :: (box b11 39 (cEPastRL e2)) :: (box b10 57 (cNPastRL e1 A6 c6 A7 c7 A8 c8 A9 c9)) :: (box b9 36 [.int .i64 p1.pfs, .int .i64 p1.obj, .int .i64 p1.off, .int .i64 0]) :: (box b8 24 [.int .i64 p0.root, .slice A1 p0.nodes.length c1]) :: (row 39 eElem A10 c10 x3) :: (loopo l1 lr1 (.exit 0) [] 0) :: (marko d1) :: (box b5 29 [.slice A10 x3.length c10]) :: (box b4 3 [.int .i64 p3]) :: (box b3 34 (cKPastRL p2)) :: G2) (by rfl) rfl (fun w' hh => ⟨_, rfl, Exists.intro x3 (Exists.intro 0 (And.intro rfl (Exists.intro A10 (Exists.intro c10 (Exists.intro V15 (And.intro (View.le_trans hV14 hV15) (And.intro rfl (hh.sub (.cons _ (List.Sublist.refl _))))))))))⟩)
               ·
                rintro v w' ⟨z6, k4, rfl, A13, c13, V13, hV13, rfl, hh⟩
                try dsimp only at hX3
                refine ⟨V13, ((box b11 39 (cEPastRL e2)) :: (box b10 57 (cNPastRL e1 A6 c6 A7 c7 A8 c8 A9 c9)) :: (box b9 36 [.int .i64 p1.pfs, .int .i64 p1.obj, .int .i64 p1.off, .int .i64 0]) :: (box b8 24 [.int .i64 p0.root, .slice A1 p0.nodes.length c1]) :: (row 39 eElem A13 c13 z6) :: (loopo l1 lr1 (.exit 0) [] k4) :: (marko d1) :: (box b5 29 [.slice A13 z6.length c13]) :: (box b4 3 [.int .i64 p3]) :: (box b3 34 (cKPastRL p2)) :: G2), hh, ?_⟩
                clear hh
                cases k4 with
                | zero =>
                 rw [natCase_zero] at hX3
                 refine TI.all [9] (by kernel_rfl) rfl ⟨?_, trivial⟩
                 refine TI.br rfl (W1.toR (W1.look (.bool false) (by kernel_rfl) (fun _ _ => by kernel_rfl) ?_))
                 refine TI.all [10] (by kernel_rfl) rfl ⟨?_, trivial⟩
                 refine TI.br rfl (W1.toR (W1.look (.bool false) (by kernel_rfl) (fun _ _ => by kernel_rfl) ?_))
                 refine TI.done (by kernel_rfl) ?_
                 cases hX3
                 exact fun a w' hf hh => Exists.intro z6 (Exists.intro 0 (And.intro rfl (Exists.intro A13 (Exists.intro c13 (Exists.intro V13 (And.intro (View.le_trans (View.le_trans hV11 hV12) hV13) (And.intro (((((((((Fr.nil hf).pick hf 36 rfl).pick hf 22 rfl).pick hf 21 rfl).pick hf 20 rfl).pick hf 9 rfl).pick hf 6 rfl).pick hf 4 rfl).pick hf 3 rfl) (hh.sub (.cons _ (List.Sublist.refl _))))))))))
                | succ k5 =>
                 rw [natCase_succ] at hX3
                 refine TI.all [9] (by kernel_rfl) rfl ⟨?_, trivial⟩
                 refine TI.br rfl (W1.toR (W1.look (.bool true) (by kernel_rfl) (fun _ _ => by kernel_rfl) ?_))
                 refine TI.all [10] (by kernel_rfl) rfl ⟨?_, trivial⟩
                 refine TI.br rfl (W1.toR (W1.look (.bool true) (by kernel_rfl) (fun _ _ => by kernel_rfl) ?_))
                 refine TI.done (by kernel_rfl) ?_
                 cases hX3
                 exact fun a w' hf hh => Exists.intro z6 (Exists.intro (k5 + 1) (And.intro rfl (Exists.intro A13 (Exists.intro c13 (Exists.intro V13 (And.intro (View.le_trans (View.le_trans hV11 hV12) hV13) (And.intro (((((((((Fr.nil hf).pick hf 36 rfl).pick hf 22 rfl).pick hf 21 rfl).pick hf 20 rfl).pick hf 9 rfl).pick hf 6 rfl).pick hf 4 rfl).pick hf 3 rfl) (hh.sub (.cons _ (List.Sublist.refl _))))))))))
              ·
               refine TI.br rfl (W1.toR (W1.look (.agg #[.int .i64 e2.key.pfs, .int .i64 e2.key.obj, .int .i64 e2.key.off, .int .i64 e2.made, .int .i64 e2.gone, .string e2.val]) (by kernel_rfl) (fun w' hh => exec_loadN (cs := (cEPastRL e2)) rfl rfl (by kernel_rfl) (by kernel_rfl) (fun j u hj => (hh.box_at (i := 0) (cs := (cEPastRL e2)) (by rfl) 0 j).trans (seg_at (n := 6) (by rfl) hj))) ?_))
               refine TI.all [6] (by kernel_rfl) rfl ⟨?_, trivial⟩
               refine TI.br rfl (W1.toR (W1.look (.func (.yield l1) #[] #[]) (by kernel_rfl) (fun _ _ => by kernel_rfl) ?_))
               refine TI.all [8] (by kernel_rfl) rfl ⟨?_, trivial⟩
               obtain ⟨q5, hX4, hX3⟩ := Option.bind_eq_some_iff.1 hX3
               refine TI.br rfl (W1R.yield 5 l1 (fun v w' => ∃ (z6 : List DElem) (k4 : Nat), q5 = (z6, k4) ∧ ∃ (A13 : Option Addr) (c13 : Nat) (V13 : View), View.le V12 V13 ∧ v = .bool (isz k4) ∧ Hp w V13 ((box b11 39 (cEPastRL e2)) :: (box b10 57 (cNPastRL e1 A6 c6 A7 c7 A8 c8 A9 c9)) :: (box b9 36 [.int .i64 p1.pfs, .int .i64 p1.obj, .int .i64 p1.off, .int .i64 0]) :: (box b8 24 [.int .i64 p0.root, .slice A1 p0.nodes.length c1]) :: (row 39 eElem A13 c13 z6) :: (loopo l1 lr1 (.exit 0) [] k4) :: (marko d1) :: (box b5 29 [.slice A13 z6.length c13]) :: (box b4 3 [.int .i64 p3]) :: (box b3 34 (cKPastRL p2)) :: G2) w') (by rfl) hl1 hl2 hl3 hl4 (by rfl) (by kernel_rfl) rfl (by kernel_rfl) rfl ?_ ?_)
               ·
                refine T.region ?_
                refine T.step (W1.new 39 [.int .i64 0, .int .i64 0, .int .i64 0, .int .i64 0, .int .i64 0, .string (ByteArray.mk #[])] (fun b => .pointer (some ⟨b, 0, none⟩)) (by kernel_rfl) (fun _ => by kernel_rfl) (fun b12 => ?_))
                refine T.step (W1.store 0 (cEPastRL e2) ((box b12 39 (cEPastRL e2)) :: (box b11 39 (cEPastRL e2)) :: (box b10 57 (cNPastRL e1 A6 c6 A7 c7 A8 c8 A9 c9)) :: (box b9 36 [.int .i64 p1.pfs, .int .i64 p1.obj, .int .i64 p1.off, .int .i64 0]) :: (box b8 24 [.int .i64 p0.root, .slice A1 p0.nodes.length c1]) :: (row 39 eElem A10 c10 x3) :: (loopo l1 lr1 (.exit 0) [] 0) :: (marko d1) :: (box b5 29 [.slice A10 x3.length c10]) :: (box b4 3 [.int .i64 p3]) :: (box b3 34 (cKPastRL p2)) :: G2) (by rfl) rfl (by kernel_rfl) (fun w' hw => exec_store (vs := (cEPastRL e2)) rfl rfl rfl rfl (by kernel_rfl) (one_of rfl) (by simp) rfl hw) ?_)
                refine T.nil ?_
                refine T.unthenN ?_
                refine T.begin 6 ((box b12 39 (cEPastRL e2)) :: (box b11 39 (cEPastRL e2)) :: (box b10 57 (cNPastRL e1 A6 c6 A7 c7 A8 c8 A9 c9)) :: (box b9 36 [.int .i64 p1.pfs, .int .i64 p1.obj, .int .i64 p1.off, .int .i64 0]) :: (box b8 24 [.int .i64 p0.root, .slice A1 p0.nodes.length c1]) :: (row 39 eElem A10 c10 x3) :: (busyo l1 lr1) :: (marko d1) :: (box b5 29 [.slice A10 x3.length c10]) :: (box b4 3 [.int .i64 p3]) :: (box b3 34 (cKPastRL p2)) :: G2) (by rfl) rfl ?_
                refine T.block ?_
                refine T.seq ?_
                refine T.seq ?_
                refine T.region ?_
                refine T.pure (.pointer (some ⟨b12, 0, none⟩)) (by kernel_rfl) (fun _ => by kernel_rfl) ?_
                refine T.look (.agg #[.int .i64 e2.key.pfs, .int .i64 e2.key.obj, .int .i64 e2.key.off]) (by kernel_rfl) (fun w' hh => exec_loadN (cs := (cKPastRL e2.key)) rfl rfl (by kernel_rfl) (by kernel_rfl) (fun j u hj => (hh.box_at (i := 0) (cs := (cEPastRL e2)) (by rfl) 0 j).trans (seg_at (n := 3) (by rfl) hj))) ?_
                refine T.look (.agg #[.int .i64 p2.pfs, .int .i64 p2.obj, .int .i64 p2.off]) (by kernel_rfl) (fun w' hh => exec_loadN (cs := (cKPastRL p2)) rfl rfl (by kernel_rfl) (by kernel_rfl) (fun j u hj => (hh.box_at (i := 10) (cs := (cKPastRL p2)) (by rfl) 0 j).trans (seg_at (n := 3) (by rfl) hj))) ?_
                obtain ⟨r7, hb8, hX4⟩ := Option.bind_eq_some_iff.1 hX4
                refine T.step (W1.call (vSc eInt) r7 37 #[.agg #[.int .i64 e2.key.pfs, .int .i64 e2.key.obj, .int .i64 e2.key.off], .agg #[.int .i64 p2.pfs, .int .i64 p2.obj, .int .i64 p2.off]] (by kernel_rfl) (fun _ => by kernel_rfl) (fun w' hh => key_Cmp_l e2.key p2 r7 hb8 w' ) ?_)
                intro u V14 hV14 hu
                obtain rfl := sureInt _ _ _ hu
                refine T.pure (.bool (decide ((0 : Int) < r7))) (by kernel_rfl) (fun _ => by kernel_rfl) ?_
                refine T.nil ?_
                refine T.cond (decide ((0 : Int) < r7)) (by kernel_rfl) (by kernel_rfl) (fun hc6 => ?_) (fun hc6 => ?_)
                ·
                 rw [hc6, cond_true] at hX4
                 refine T.exit ?_
                 cases hX4
                 repeat first | refine T.unthenX ?_ | refine T.unblockX rfl ?_
                 exact T.roundExit (.exit 0) [] 0 6 ((box b12 39 (cEPastRL e2)) :: (box b11 39 (cEPastRL e2)) :: (box b10 57 (cNPastRL e1 A6 c6 A7 c7 A8 c8 A9 c9)) :: (box b9 36 [.int .i64 p1.pfs, .int .i64 p1.obj, .int .i64 p1.off, .int .i64 0]) :: (box b8 24 [.int .i64 p0.root, .slice A1 p0.nodes.length c1]) :: (row 39 eElem A10 c10 x3) :: (loopo l1 lr1 (.exit 0) [] (0 + 1)) :: (marko d1) :: (box b5 29 [.slice A10 x3.length c10]) :: (box b4 3 [.int .i64 p3]) :: (box b3 34 (cKPastRL p2)) :: G2) (by rfl) rfl rfl (fun w' hh => ⟨_, rfl, Exists.intro x3 (Exists.intro (0 + 1) (And.intro rfl (Exists.intro A10 (Exists.intro c10 (Exists.intro V14 (And.intro hV14 (And.intro rfl (hh.sub (.cons _ (List.Sublist.refl _))))))))))⟩)
                ·
                 rw [hc6, cond_false] at hX4
                 refine T.skip_code ?_
                 refine T.seq ?_
                 refine T.region ?_
                 refine T.look (.agg #[.int .i64 e2.key.pfs, .int .i64 e2.key.obj, .int .i64 e2.key.off, .int .i64 e2.made, .int .i64 e2.gone, .string e2.val]) (by kernel_rfl) (fun w' hh => exec_loadN (cs := (cEPastRL e2)) rfl rfl (by kernel_rfl) (by kernel_rfl) (fun j u hj => (hh.box_at (i := 0) (cs := (cEPastRL e2)) (by rfl) 0 j).trans (seg_at (n := 6) (by rfl) hj))) ?_
                 refine T.look (.int .i64 p3) (by kernel_rfl) (fun w' hh => exec_load1 rfl rfl (by kernel_rfl) (hh.cellBox (i := 9) (by rfl) 0)) ?_
                 obtain ⟨r8, hb9, hX4⟩ := Option.bind_eq_some_iff.1 hX4
                 refine T.step (W1.call (vSc eBool) r8 51 #[.agg #[.int .i64 e2.key.pfs, .int .i64 e2.key.obj, .int .i64 e2.key.off, .int .i64 e2.made, .int .i64 e2.gone, .string e2.val], .int .i64 p3] (by kernel_rfl) (fun _ => by kernel_rfl) (fun w' hh => elem_Live_l e2 p3 r8 hb9 w' ) ?_)
                 intro u V15 hV15 hu
                 obtain rfl := sureBool _ _ _ hu
                 refine T.nil ?_
                 refine T.cond r8 (by kernel_rfl) (by kernel_rfl) (fun hc7 => ?_) (fun hc7 => ?_)
                 ·
                  rw [hc7, cond_true] at hX4
                  refine T.region ?_
                  refine T.look (.slice A10 x3.length c10) (by kernel_rfl) (fun w' hh => exec_load1 rfl rfl (by kernel_rfl) (hh.cellBox (i := 8) (by rfl) 0)) ?_
                  refine T.look (.agg #[.int .i64 e2.key.pfs, .int .i64 e2.key.obj, .int .i64 e2.key.off, .int .i64 e2.made, .int .i64 e2.gone, .string e2.val]) (by kernel_rfl) (fun w' hh => exec_loadN (cs := (cEPastRL e2)) rfl rfl (by kernel_rfl) (by kernel_rfl) (fun j u hj => (hh.box_at (i := 0) (cs := (cEPastRL e2)) (by rfl) 0 j).trans (seg_at (n := 6) (by rfl) hj))) ?_
                  refine T.step (W1.new 39 (cEPastRL e2) (fun b => .slice (some ⟨b, 0, none⟩) 1 1) (by kernel_rfl) (fun _ => by kernel_rfl) (fun b13 => ?_))
                  obtain ⟨y2, hb10, hX4⟩ := Option.bind_eq_some_iff.1 hX4
                  obtain ⟨hb10_r, hb10_m, rfl⟩ := grow_some hb10
                  obtain ⟨ti, hti, hz1, hz2, hz3⟩ := info_parts (P := Try.prog) (e := 39) (z := .agg #[.int .i64 0, .int .i64 0, .int .i64 0, .int .i64 0, .int .i64 0, .string (ByteArray.mk #[])]) (size := 6) (bytes := 56) (by kernel_rfl)
                  refine T.step (W1.append (E := eElem) (l := x3) (m := [e2]) 6 _ _ 56 ti _ (by rfl) (by kernel_rfl) rfl (by kernel_rfl) hti hz1 hz2 hz3 rfl (by decide) rfl rfl (fun w' hh => (SlOk.srcF (slok_lit (E := eElem) (f := DElem.cells) [e2] (fun _ _ => rfl) (Nat.le_of_ble_eq_true (by rfl)) (fun j => hh.cellBox (i := 0) (by rfl) j)) (fun _ _ _ _ h => h))) hb10_r hb10_m (fun A14 c14 => ?_))
                  refine T.step (W1.store 9 [.slice A14 ((x3 ++ [e2]).length) c14] ((box b13 39 (cEPastRL e2)) :: (box b12 39 (cEPastRL e2)) :: (box b11 39 (cEPastRL e2)) :: (box b10 57 (cNPastRL e1 A6 c6 A7 c7 A8 c8 A9 c9)) :: (box b9 36 [.int .i64 p1.pfs, .int .i64 p1.obj, .int .i64 p1.off, .int .i64 0]) :: (box b8 24 [.int .i64 p0.root, .slice A1 p0.nodes.length c1]) :: (row 39 eElem A14 c14 (x3 ++ [e2])) :: (busyo l1 lr1) :: (marko d1) :: (box b5 29 [.slice A14 ((x3 ++ [e2]).length) c14]) :: (box b4 3 [.int .i64 p3]) :: (box b3 34 (cKPastRL p2)) :: G2) (by rfl) rfl (by kernel_rfl) (fun w' hw => exec_store (vs := [.slice A14 ((x3 ++ [e2]).length) c14]) rfl rfl rfl rfl (by kernel_rfl) (one_of rfl) (by simp) rfl hw) ?_)
                  refine T.nil ?_
                  cases hX4
                  repeat first | refine T.unthenN ?_ | refine T.unblockN ?_
                  exact T.roundEnd (.exit 0) [] 7 ((box b13 39 (cEPastRL e2)) :: (box b12 39 (cEPastRL e2)) :: (box b11 39 (cEPastRL e2)) :: (box b10 57 (cNPastRL e1 A6 c6 A7 c7 A8 c8 A9 c9)) :: (box b9 36 [.int .i64 p1.pfs, .int .i64 p1.obj, .int .i64 p1.off, .int .i64 0]) :: (box b8 24 [.int .i64 p0.root, .slice A1 p0.nodes.length c1]) :: (row 39 eElem A14 c14 (x3 ++ [e2])) :: (loopo l1 lr1 (.exit 0) [] 0) :: (marko d1) :: (box b5 29 [.slice A14 ((x3 ++ [e2]).length) c14]) :: (box b4 3 [.int .i64 p3]) :: (box b3 34 (cKPastRL p2)) :: G2) (by rfl) rfl (fun w' hh => ⟨_, rfl, Exists.intro (x3 ++ [e2]) (Exists.intro 0 (And.intro rfl (Exists.intro A14 (Exists.intro c14 (Exists.intro V15 (And.intro (View.le_trans hV14 hV15) (And.intro rfl (hh.sub (.cons _ (.cons _ (List.Sublist.refl _)))))))))))⟩)
                 ·
                  rw [hc7, cond_false] at hX4
                  refine T.skip_code ?_
                  cases hX4
                  repeat first | refine T.unthenN ?_ | refine T.unblockN ?_
                  exact T.roundEnd (.exit 0) [] 6 ((box b12 39 (cEPastRL e2)) :: (box b11 39 (cEPastRL e2)) :: (box b10 57 (cNPastRL e1 A6 c6 A7 c7 A8 c8 A9 c9)) :: (box b9 36 [.int .i64 p1.pfs, .int .i64 p1.obj, .int .i64 p1.off, .int .i64 0]) :: (box b8 24 [.int .i64 p0.root, .slice A1 p0.nodes.length c1]) :: (row 39 eElem A10 c10 x3) :: (loopo l1 lr1 (.exit 0) [] 0) :: (marko d1) :: (box b5 29 [.slice A10 x3.length c10]) :: (box b4 3 [.int .i64 p3]) :: (box b3 34 (cKPastRL p2)) :: G2) (by rfl) rfl (fun w' hh => ⟨_, rfl, Exists.intro x3 (Exists.intro 0 (And.intro rfl (Exists.intro A10 (Exists.intro c10 (Exists.intro V15 (And.intro (View.le_trans hV14 hV15) (And.intro rfl (hh.sub (.cons _ (List.Sublist.refl _))))))))))⟩)
               ·
                rintro v w' ⟨z6, k4, rfl, A13, c13, V13, hV13, rfl, hh⟩
                try dsimp only at hX3
                refine ⟨V13, ((box b11 39 (cEPastRL e2)) :: (box b10 57 (cNPastRL e1 A6 c6 A7 c7 A8 c8 A9 c9)) :: (box b9 36 [.int .i64 p1.pfs, .int .i64 p1.obj, .int .i64 p1.off, .int .i64 0]) :: (box b8 24 [.int .i64 p0.root, .slice A1 p0.nodes.length c1]) :: (row 39 eElem A13 c13 z6) :: (loopo l1 lr1 (.exit 0) [] k4) :: (marko d1) :: (box b5 29 [.slice A13 z6.length c13]) :: (box b4 3 [.int .i64 p3]) :: (box b3 34 (cKPastRL p2)) :: G2), hh, ?_⟩
                clear hh
                cases k4 with
                | zero =>
                 rw [natCase_zero] at hX3
                 refine TI.all [9] (by kernel_rfl) rfl ⟨?_, trivial⟩
                 refine TI.br rfl (W1.toR (W1.look (.bool false) (by kernel_rfl) (fun _ _ => by kernel_rfl) ?_))
                 refine TI.all [10] (by kernel_rfl) rfl ⟨?_, trivial⟩
                 refine TI.br rfl (W1.toR (W1.look (.bool false) (by kernel_rfl) (fun _ _ => by kernel_rfl) ?_))
                 refine TI.done (by kernel_rfl) ?_
                 cases hX3
                 exact fun a w' hf hh => Exists.intro z6 (Exists.intro 0 (And.intro rfl (Exists.intro A13 (Exists.intro c13 (Exists.intro V13 (And.intro (View.le_trans (View.le_trans hV11 hV12) hV13) (And.intro (((((((((Fr.nil hf).pick hf 36 rfl).pick hf 22 rfl).pick hf 21 rfl).pick hf 20 rfl).pick hf 9 rfl).pick hf 6 rfl).pick hf 4 rfl).pick hf 3 rfl) (hh.sub (.cons _ (List.Sublist.refl _))))))))))
                | succ k5 =>
                 rw [natCase_succ] at hX3
                 refine TI.all [9] (by kernel_rfl) rfl ⟨?_, trivial⟩
                 refine TI.br rfl (W1.toR (W1.look (.bool true) (by kernel_rfl) (fun _ _ => by kernel_rfl) ?_))
                 refine TI.all [10] (by kernel_rfl) rfl ⟨?_, trivial⟩
                 refine TI.br rfl (W1.toR (W1.look (.bool true) (by kernel_rfl) (fun _ _ => by kernel_rfl) ?_))
                 refine TI.done (by kernel_rfl) ?_
                 cases hX3
                 exact fun a w' hf hh => Exists.intro z6 (Exists.intro (k5 + 1) (And.intro rfl (Exists.intro A13 (Exists.intro c13 (Exists.intro V13 (And.intro (View.le_trans (View.le_trans hV11 hV12) hV13) (And.intro (((((((((Fr.nil hf).pick hf 36 rfl).pick hf 22 rfl).pick hf 21 rfl).pick hf 20 rfl).pick hf 9 rfl).pick hf 6 rfl).pick hf 4 rfl).pick hf 3 rfl) (hh.sub (.cons _ (List.Sublist.refl _))))))))))
           ·
            rintro a w' ⟨z5, k3, rfl, A12, c12, V10, hV10, hf, hh⟩
            try dsimp only at hY1
            refine (?_ : T 59 w V10 ((box b10 57 (cNPastRL e1 A6 c6 A7 c7 A8 c8 A9 c9)) :: (box b9 36 [.int .i64 p1.pfs, .int .i64 p1.obj, .int .i64 p1.off, .int .i64 0]) :: (box b8 24 [.int .i64 p0.root, .slice A1 p0.nodes.length c1]) :: (row 39 eElem A12 c12 z5) :: (loopo l1 lr1 (.exit 0) [] k3) :: (marko d1) :: (box b5 29 [.slice A12 z5.length c12]) :: (box b4 3 [.int .i64 p3]) :: (box b3 34 (cKPastRL p2)) :: G2) [(3, .func (.yield l1) #[] #[]), (4, .pointer (some ⟨b8, 0, none⟩)), (6, .pointer (some ⟨b9, 0, none⟩)), (9, .pointer (some ⟨b10, 0, none⟩)), (20, .slice A6 e1.elems.length c6), (21, .int .i64 (e1.elems.length : Int)), (22, .int .i64 x4), (36, .bool (!(isz k3)))] _) a w' hf hh
            clear hf hh
            cases k3 with
            | zero =>
             rw [natCase_zero] at hY1
             refine T.cond false (by kernel_rfl) (by kernel_rfl) (fun h => Bool.noConfusion h) (fun _ => ?_)
             refine T.skip_code ?_
             refine T.region ?_
             refine T.pure (.int .i64 (IntKind.i64.wrap (x4 + 1))) (by kernel_rfl) (fun _ => by kernel_rfl) ?_
             refine T.pure (.int .i64 (IntKind.i64.wrap (x4 + 1))) (by kernel_rfl) (fun _ => by kernel_rfl) ?_
             refine T.nil ?_
             cases hY1
             exact fun a w' hf hh => Exists.intro (z5, IntKind.i64.wrap (x4 + 1)) (And.intro rfl (Exists.intro z5 (Exists.intro (IntKind.i64.wrap (x4 + 1)) (And.intro rfl (Exists.intro A12 (Exists.intro c12 (Exists.intro V10 (And.intro (View.le_trans hV8 hV10) (And.intro ((((((((Fr.nil hf).pick hf 22 rfl).pick hf 21 rfl).pick hf 20 rfl).pick hf 9 rfl).pick hf 6 rfl).pick hf 4 rfl).pick hf 3 rfl) (hh.sub (List.Sublist.refl _)))))))))))
            | succ k6 =>
             rw [natCase_succ] at hY1
             refine T.cond true (by kernel_rfl) (by kernel_rfl) (fun _ => ?_) (fun h => Bool.noConfusion h)
             refine T.seq ?_
             refine T.region ?_
             refine T.pure (.bool false) (by kernel_rfl) (fun _ => by kernel_rfl) ?_
             refine T.nil ?_
             cases hY1
             cases (hr2 _ rfl)
             try dsimp only at hS1
             have hres := Option.some.inj hS1
             subst hres
             refine T.ret rfl ?_
             repeat first | refine T.unthen ?_ | refine T.unblock ?_
             exact T.ret1 rfl (ResIs.tmp rfl) fun w' hh => ⟨_, rfl, Exists.intro z5 (Exists.intro (k6 + 1) (And.intro rfl (Exists.intro A12 (Exists.intro c12 (Exists.intro V10 (And.intro (View.le_trans hV8 hV10) (And.intro rfl (hh.sub (.cons _ (.cons _ (.cons _ (List.Sublist.refl _))))))))))))⟩
          ·
           rw [hc5, cond_false] at hY1
           refine T.exit ?_
           cases hY1
           cases (hr2 _ rfl)
           exact fun a w' hf hh => Exists.intro x3 (And.intro rfl (Exists.intro A10 (Exists.intro c10 (Exists.intro V8 (And.intro hV8 (And.intro (((((Fr.nil hf).pick hf 9 rfl).pick hf 6 rfl).pick hf 4 rfl).pick hf 3 rfl) (hh.sub (List.Sublist.refl _))))))))
        ·
         rintro a w' ⟨z4, rfl, A11, c11, V9, hV9, hf, hh⟩
         try dsimp only at hS1
         refine (?_ : T 59 w V9 ((box b10 57 (cNPastRL e1 A6 c6 A7 c7 A8 c8 A9 c9)) :: (box b9 36 [.int .i64 p1.pfs, .int .i64 p1.obj, .int .i64 p1.off, .int .i64 0]) :: (box b8 24 [.int .i64 p0.root, .slice A1 p0.nodes.length c1]) :: (row 39 eElem A11 c11 z4) :: (loopo l1 lr1 (.exit 0) [] 0) :: (marko d1) :: (box b5 29 [.slice A11 z4.length c11]) :: (box b4 3 [.int .i64 p3]) :: (box b3 34 (cKPastRL p2)) :: G2) [(3, .func (.yield l1) #[] #[]), (4, .pointer (some ⟨b8, 0, none⟩)), (6, .pointer (some ⟨b9, 0, none⟩)), (9, .pointer (some ⟨b10, 0, none⟩))] _) a w' hf hh
         clear hf hh
         refine T.seq ?_
         refine T.seq ?_
         refine T.region ?_
         refine T.pure (.pointer (some ⟨b10, 0, none⟩)) (by kernel_rfl) (fun _ => by kernel_rfl) ?_
         refine T.look (.int .i64 e1.kind) (by kernel_rfl) (fun w' hh => exec_load1 rfl rfl (by kernel_rfl) (hh.cellBox (i := 0) (by rfl) 0)) ?_
         refine T.pure (.bool (e1.kind == 1)) (by kernel_rfl) (fun _ => by kernel_rfl) ?_
         refine T.nil ?_
         refine T.cond (e1.kind == 1) (by kernel_rfl) (by kernel_rfl) (fun hc8 => ?_) (fun hc8 => ?_)
         ·
          rw [hc8, cond_true] at hS1
          refine T.seq ?_
          refine T.region ?_
          refine T.pure (.bool true) (by kernel_rfl) (fun _ => by kernel_rfl) ?_
          refine T.nil ?_
          have hres := Option.some.inj hS1
          subst hres
          refine T.ret rfl ?_
          repeat first | refine T.unthen ?_ | refine T.unblock ?_
          exact T.ret1 rfl (ResIs.tmp rfl) fun w' hh => ⟨_, rfl, Exists.intro z4 (Exists.intro 0 (And.intro rfl (Exists.intro A11 (Exists.intro c11 (Exists.intro V9 (And.intro hV9 (And.intro rfl (hh.sub (.cons _ (.cons _ (.cons _ (List.Sublist.refl _))))))))))))⟩
         ·
          rw [hc8, cond_false] at hS1
          refine T.skip_code ?_
          refine T.seq ?_
          refine T.seq ?_
          refine T.quiet (by kernel_rfl) (by kernel_rfl) ?_
          refine TQ.pure (.pointer (some ⟨b10, 2, none⟩)) (by kernel_rfl) (fun _ => by kernel_rfl) ?_
          refine TQ.look (.slice A7 e1.kids.length c7) (by kernel_rfl) (fun w' hh => exec_load1 rfl rfl (by kernel_rfl) (hh.cellBox (i := 0) (by rfl) 2)) ?_
          refine TQ.look (.agg #[.int .i64 e1.kind, .slice A6 e1.elems.length c6, .slice A7 e1.kids.length c7, .slice A8 e1.seps.length c8, .slice A9 e1.tids.length c9]) (by kernel_rfl) (fun w' hh => exec_loadN (cs := (cNPastRL e1 A6 c6 A7 c7 A8 c8 A9 c9)) rfl rfl (by kernel_rfl) (by kernel_rfl) (fun j u hj => (hh.box_at (i := 0) (cs := (cNPastRL e1 A6 c6 A7 c7 A8 c8 A9 c9)) (by rfl) 0 j).trans (seg_at (n := 5) (by rfl) hj))) ?_
          refine TQ.look (.agg #[.int .i64 p1.pfs, .int .i64 p1.obj, .int .i64 p1.off, .int .i64 0]) (by kernel_rfl) (fun w' hh => exec_loadN (cs := [.int .i64 p1.pfs, .int .i64 p1.obj, .int .i64 p1.off, .int .i64 0]) rfl rfl (by kernel_rfl) (by kernel_rfl) (fun j u hj => (hh.box_at (i := 1) (cs := [.int .i64 p1.pfs, .int .i64 p1.obj, .int .i64 p1.off, .int .i64 0]) (by rfl) 0 j).trans (seg_at (n := 4) (by rfl) hj))) ?_
          obtain ⟨r9, hb11, hS1⟩ := Option.bind_eq_some_iff.1 hS1
          refine TQ.call (vSc eInt) r9 61 #[.agg #[.int .i64 e1.kind, .slice A6 e1.elems.length c6, .slice A7 e1.kids.length c7, .slice A8 e1.seps.length c8, .slice A9 e1.tids.length c9], .agg #[.int .i64 p1.pfs, .int .i64 p1.obj, .int .i64 p1.off, .int .i64 0]] (.int .i64 r9) (fun V u hu => sureInt V u _ hu) (by kernel_rfl) (fun _ => by kernel_rfl) (fun w' hh => node_Way_l F e1 (DSpot.mk p1 0) r9 hb11 w' A6 c6 (SlOk.mono (SlOk.mono hs2 hV9) hh.view) A7 c7 (SlOk.mono (SlOk.mono hs3 hV9) hh.view) A8 c8 (SlOk.mono (SlOk.mono hs4 hV9) hh.view) A9 c9 (SlOk.mono (SlOk.mono hs5 hV9) hh.view)) ?_
          obtain ⟨s2, hb12, hS1⟩ := Option.bind_eq_some_iff.1 hS1
          refine TQ.look (.slice (cutA A7 c7 r9.toNat 1) s2.length (c7 - r9.toNat)) (by kernel_rfl) (fun w' hh => exec_slice_list (e := 3) (s := 1) (lx := (some _)) (hx := none) (k := .i64) (k' := .i64) rfl rfl (by kernel_rfl) (by kernel_rfl) ((SlOk.mono hs3 hV9)).1 rfl rfl hb12) ?_
          refine TQ.pure (.int .i64 (s2.length : Int)) (by kernel_rfl) (fun _ => by kernel_rfl) ?_
          refine TQ.pure (.int .i64 0) (by kernel_rfl) (fun _ => by kernel_rfl) ?_
          refine TQ.nil ?_
          obtain ⟨q6, hz3, hS1⟩ := Option.bind_eq_some_iff.1 hS1
          refine T.mid (fun a w' => ∃ (z7 : List DElem), q6 = Sum.inl z7 ∧ ∃ (A17 : Option Addr) (c17 : Nat) (V17 : View), View.le V9 V17 ∧ Fr 59 [] a ∧ Hp w V17 ((row 39 eElem A17 c17 z7) :: (loopo l1 lr1 (.exit 0) [] 0) :: (marko d1) :: (box b5 29 [.slice A17 z7.length c17]) :: (box b4 3 [.int .i64 p3]) :: (box b3 34 (cKPastRL p2)) :: G2) w') ?_ ?_
          ·
           refine T.block ?_
           refine T.iter (fun s3 a w' => ∃ (x5 : List DElem) (x6 : Int), s3 = (x5, x6) ∧ ∃ (A15 : Option Addr) (c15 : Nat) (A16 : Option Addr) (c16 : Nat) (V16 : View), View.le V9 V16 ∧ SlOk V16 eInt A16 c16 s2 ∧ Fr 59 [(3, .func (.yield l1) #[] #[]), (4, .pointer (some ⟨b8, 0, none⟩)), (6, .pointer (some ⟨b9, 0, none⟩)), (46, .slice A16 s2.length c16), (47, .int .i64 (s2.length : Int)), (48, .int .i64 x6)] a ∧ Hp w V16 ((box b9 36 [.int .i64 p1.pfs, .int .i64 p1.obj, .int .i64 p1.off, .int .i64 0]) :: (box b8 24 [.int .i64 p0.root, .slice A1 p0.nodes.length c1]) :: (row 39 eElem A15 c15 x5) :: (loopo l1 lr1 (.exit 0) [] 0) :: (marko d1) :: (box b5 29 [.slice A15 x5.length c15]) :: (box b4 3 [.int .i64 p3]) :: (box b3 34 (cKPastRL p2)) :: G2) w') hz3 ?_ ?_
           ·
            exact fun a w' hf hh => Exists.intro z4 (Exists.intro 0 (And.intro rfl (Exists.intro A11 (Exists.intro c11 (Exists.intro (cutA A7 c7 r9.toNat 1) (Exists.intro (c7 - r9.toNat) (Exists.intro V9 (And.intro (View.le_refl _) (And.intro (SlOk.cut (SlOk.mono hs3 hV9) hb12) (And.intro (((((((Fr.nil hf).pick hf 48 rfl).pick hf 47 rfl).pick hf 46 rfl).pick hf 6 rfl).pick hf 4 rfl).pick hf 3 rfl) (hh.sub (.cons _ (List.Sublist.refl _)))))))))))))
           ·
            rintro s3 y3 hY2 hr3 a w' ⟨x5, x6, rfl, A15, c15, A16, c16, V16, hV16, hs6, hf, hh⟩
            refine (?_ : T 59 w V16 ((box b9 36 [.int .i64 p1.pfs, .int .i64 p1.obj, .int .i64 p1.off, .int .i64 0]) :: (box b8 24 [.int .i64 p0.root, .slice A1 p0.nodes.length c1]) :: (row 39 eElem A15 c15 x5) :: (loopo l1 lr1 (.exit 0) [] 0) :: (marko d1) :: (box b5 29 [.slice A15 x5.length c15]) :: (box b4 3 [.int .i64 p3]) :: (box b3 34 (cKPastRL p2)) :: G2) [(3, .func (.yield l1) #[] #[]), (4, .pointer (some ⟨b8, 0, none⟩)), (6, .pointer (some ⟨b9, 0, none⟩)), (46, .slice A16 s2.length c16), (47, .int .i64 (s2.length : Int)), (48, .int .i64 x6)] _) a w' hf hh
            clear hf hh
            try dsimp only at hY2
            refine T.seq ?_
            refine T.region ?_
            refine T.pure (.bool (decide (x6 < (s2.length : Int)))) (by kernel_rfl) (fun _ => by kernel_rfl) ?_
            refine T.nil ?_
            refine T.seq ?_
            refine T.cond (decide (x6 < (s2.length : Int))) (by kernel_rfl) (by kernel_rfl) (fun hc9 => ?_) (fun hc9 => ?_)
            ·
             rw [hc9, cond_true] at hY2
             refine T.skip_code ?_
             refine T.seq ?_
             refine T.block ?_
             refine T.seq ?_
             refine T.region ?_
             obtain ⟨e3, hb13, hY2⟩ := Option.bind_eq_some_iff.1 hY2
             obtain ⟨hi7, hi8, hi9⟩ := idx_some hb13
             refine T.look (.pointer (some ((sadr A16).add (x6.toNat * 1)))) (by kernel_rfl) (fun w' hh => exec_indexAddr (e := 3) (s := 1) rfl rfl rfl (by kernel_rfl) (by kernel_rfl) hi7 hi8 (hs6.some_ hi9 (by decide))) ?_
             refine T.look (.int .i64 e3) (by kernel_rfl) (fun w' hh => exec_load1 rfl rfl (by kernel_rfl) (hh.cell_view (SlOk.cellF0 (E := eInt) hs6 hi9 (fun _ _ _ h => h) rfl))) ?_
             refine T.pure (.int .i64 e3) (by kernel_rfl) (fun _ => by kernel_rfl) ?_
             refine T.nil ?_
             obtain ⟨q7, hX5, hY2⟩ := Option.bind_eq_some_iff.1 hY2
             refine T.cut (fun a w' => ∃ (z8 : List DElem) (k7 : Nat), q7 = (z8, k7) ∧ ∃ (A18 : Option Addr) (c18 : Nat) (V18 : View), View.le V16 V18 ∧ Fr 59 [(3, .func (.yield l1) #[] #[]), (4, .pointer (some ⟨b8, 0, none⟩)), (6, .pointer (some ⟨b9, 0, none⟩)), (46, .slice A16 s2.length c16), (47, .int .i64 (s2.length : Int)), (48, .int .i64 x6), (57, .bool (!(isz k7)))] a ∧ Hp w V18 ((box b9 36 [.int .i64 p1.pfs, .int .i64 p1.obj, .int .i64 p1.off, .int .i64 0]) :: (box b8 24 [.int .i64 p0.root, .slice A1 p0.nodes.length c1]) :: (row 39 eElem A18 c18 z8) :: (loopo l1 lr1 (.exit 0) [] k7) :: (marko d1) :: (box b5 29 [.slice A18 z8.length c18]) :: (box b4 3 [.int .i64 p3]) :: (box b3 34 (cKPastRL p2)) :: G2) w') ?_ ?_
             ·
              refine T.region ?_
              refine T.look (.agg #[.int .i64 p0.root, .slice A1 p0.nodes.length c1]) (by kernel_rfl) (fun w' hh => exec_loadN (cs := [.int .i64 p0.root, .slice A1 p0.nodes.length c1]) rfl rfl (by kernel_rfl) (by kernel_rfl) (fun j u hj => (hh.box_at (i := 1) (cs := [.int .i64 p0.root, .slice A1 p0.nodes.length c1]) (by rfl) 0 j).trans (seg_at (n := 2) (by rfl) hj))) ?_
              refine T.pure (.int .i64 e3) (by kernel_rfl) (fun _ => by kernel_rfl) ?_
              refine T.look (.agg #[.int .i64 p1.pfs, .int .i64 p1.obj, .int .i64 p1.off, .int .i64 0]) (by kernel_rfl) (fun w' hh => exec_loadN (cs := [.int .i64 p1.pfs, .int .i64 p1.obj, .int .i64 p1.off, .int .i64 0]) rfl rfl (by kernel_rfl) (by kernel_rfl) (fun j u hj => (hh.box_at (i := 0) (cs := [.int .i64 p1.pfs, .int .i64 p1.obj, .int .i64 p1.off, .int .i64 0]) (by rfl) 0 j).trans (seg_at (n := 4) (by rfl) hj))) ?_
              refine T.pure (.func (.yield l1) #[] #[]) (by kernel_rfl) (fun _ => by kernel_rfl) ?_
              obtain ⟨q8, hz4, hX5⟩ := Option.bind_eq_some_iff.1 hX5
              refine T.step (W1.callI 57 [.agg #[.int .i64 p0.root, .slice A1 p0.nodes.length c1], .int .i64 e3, .agg #[.int .i64 p1.pfs, .int .i64 p1.obj, .int .i64 p1.off, .int .i64 0], .func (.yield l1) #[] #[]] (fun v w' => ∃ (z9 : List DElem) (z10 : Nat), q8 = (z9, z10) ∧ ∃ (A19 : Option Addr) (c19 : Nat) (V19 : View), View.le V16 V19 ∧ v = .bool (isz z10) ∧ Hp w V19 ((row 39 eElem A19 c19 z9) :: (loopo l1 lr1 (.exit 0) [] z10) :: (marko d1) :: (box b5 29 [.slice A19 z9.length c19]) :: (box b4 3 [.int .i64 p3]) :: (box b3 34 (cKPastRL p2)) :: (box b9 36 [.int .i64 p1.pfs, .int .i64 p1.obj, .int .i64 p1.off, .int .i64 0]) :: (box b8 24 [.int .i64 p0.root, .slice A1 p0.nodes.length c1]) :: G2) w') (by kernel_rfl) (fun _ => by kernel_rfl) (fun w' hh => ih1 _ _ hz4 x5 e3 rfl A15 c15 V16 ((box b9 36 [.int .i64 p1.pfs, .int .i64 p1.obj, .int .i64 p1.off, .int .i64 0]) :: (box b8 24 [.int .i64 p0.root, .slice A1 p0.nodes.length c1]) :: G2) w' (View.le_trans (View.le_trans hV6 hV9) hV16) ((hh.sub (List.Sublist.refl _)).perm (List.Perm.trans (List.Perm.cons _ (List.Perm.swap _ _ _)) (List.Perm.trans (List.Perm.swap _ _ _) (List.Perm.cons _ (List.Perm.trans (List.Perm.cons _ (List.Perm.swap _ _ _)) (List.Perm.trans (List.Perm.swap _ _ _) (List.Perm.cons _ (List.Perm.trans (List.Perm.cons _ (List.Perm.swap _ _ _)) (List.Perm.trans (List.Perm.swap _ _ _) (List.Perm.cons _ (List.Perm.trans (List.Perm.cons _ (List.Perm.swap _ _ _)) (List.Perm.trans (List.Perm.swap _ _ _) (List.Perm.cons _ (List.Perm.trans (List.Perm.cons _ (List.Perm.swap _ _ _)) (List.Perm.trans (List.Perm.swap _ _ _) (List.Perm.cons _ (List.Perm.trans (List.Perm.cons _ (List.Perm.swap _ _ _)) (List.Perm.trans (List.Perm.swap _ _ _) (List.Perm.refl _)))))))))))))))))))) ?_)
              rintro v w' ⟨z9, z10, rfl, A19, c19, V19, hV19, rfl, hh⟩
              try dsimp only at hX5
              refine ⟨V19, ((box b9 36 [.int .i64 p1.pfs, .int .i64 p1.obj, .int .i64 p1.off, .int .i64 0]) :: (box b8 24 [.int .i64 p0.root, .slice A1 p0.nodes.length c1]) :: (row 39 eElem A19 c19 z9) :: (loopo l1 lr1 (.exit 0) [] z10) :: (marko d1) :: (box b5 29 [.slice A19 z9.length c19]) :: (box b4 3 [.int .i64 p3]) :: (box b3 34 (cKPastRL p2)) :: G2), (hh.sub (List.Sublist.refl _)).perm (List.Perm.trans (List.Perm.cons _ (List.Perm.cons _ (List.Perm.cons _ (List.Perm.cons _ (List.Perm.cons _ (List.Perm.swap _ _ _)))))) (List.Perm.trans (List.Perm.cons _ (List.Perm.cons _ (List.Perm.cons _ (List.Perm.cons _ (List.Perm.swap _ _ _))))) (List.Perm.trans (List.Perm.cons _ (List.Perm.cons _ (List.Perm.cons _ (List.Perm.swap _ _ _)))) (List.Perm.trans (List.Perm.cons _ (List.Perm.cons _ (List.Perm.swap _ _ _))) (List.Perm.trans (List.Perm.cons _ (List.Perm.swap _ _ _)) (List.Perm.trans (List.Perm.swap _ _ _) (List.Perm.cons _ (List.Perm.trans (List.Perm.cons _ (List.Perm.cons _ (List.Perm.cons _ (List.Perm.cons _ (List.Perm.cons _ (List.Perm.swap _ _ _)))))) (List.Perm.trans (List.Perm.cons _ (List.Perm.cons _ (List.Perm.cons _ (List.Perm.cons _ (List.Perm.swap _ _ _))))) (List.Perm.trans (List.Perm.cons _ (List.Perm.cons _ (List.Perm.cons _ (List.Perm.swap _ _ _)))) (List.Perm.trans (List.Perm.cons _ (List.Perm.cons _ (List.Perm.swap _ _ _))) (List.Perm.trans (List.Perm.cons _ (List.Perm.swap _ _ _)) (List.Perm.trans (List.Perm.swap _ _ _) (List.Perm.refl _)))))))))))))), ?_⟩
              clear hh
              cases z10 with
              | zero =>
               rw [natCase_zero] at hX5
               refine T.pure (.bool false) (by kernel_rfl) (fun _ => by kernel_rfl) ?_
               refine T.nil ?_
               cases hX5
               exact fun a w' hf hh => Exists.intro z9 (Exists.intro 0 (And.intro rfl (Exists.intro A19 (Exists.intro c19 (Exists.intro V19 (And.intro hV19 (And.intro ((((((((Fr.nil hf).pick hf 57 rfl).pick hf 48 rfl).pick hf 47 rfl).pick hf 46 rfl).pick hf 6 rfl).pick hf 4 rfl).pick hf 3 rfl) (hh.sub (List.Sublist.refl _)))))))))
              | succ k8 =>
               rw [natCase_succ] at hX5
               refine T.pure (.bool true) (by kernel_rfl) (fun _ => by kernel_rfl) ?_
               refine T.nil ?_
               cases hX5
               exact fun a w' hf hh => Exists.intro z9 (Exists.intro (k8 + 1) (And.intro rfl (Exists.intro A19 (Exists.intro c19 (Exists.intro V19 (And.intro hV19 (And.intro ((((((((Fr.nil hf).pick hf 57 rfl).pick hf 48 rfl).pick hf 47 rfl).pick hf 46 rfl).pick hf 6 rfl).pick hf 4 rfl).pick hf 3 rfl) (hh.sub (List.Sublist.refl _)))))))))
             ·
              rintro a w' ⟨z8, k7, rfl, A18, c18, V18, hV18, hf, hh⟩
              try dsimp only at hY2
              refine (?_ : T 59 w V18 ((box b9 36 [.int .i64 p1.pfs, .int .i64 p1.obj, .int .i64 p1.off, .int .i64 0]) :: (box b8 24 [.int .i64 p0.root, .slice A1 p0.nodes.length c1]) :: (row 39 eElem A18 c18 z8) :: (loopo l1 lr1 (.exit 0) [] k7) :: (marko d1) :: (box b5 29 [.slice A18 z8.length c18]) :: (box b4 3 [.int .i64 p3]) :: (box b3 34 (cKPastRL p2)) :: G2) [(3, .func (.yield l1) #[] #[]), (4, .pointer (some ⟨b8, 0, none⟩)), (6, .pointer (some ⟨b9, 0, none⟩)), (46, .slice A16 s2.length c16), (47, .int .i64 (s2.length : Int)), (48, .int .i64 x6), (57, .bool (!(isz k7)))] _) a w' hf hh
              clear hf hh
              cases k7 with
              | zero =>
               rw [natCase_zero] at hY2
               refine T.cond false (by kernel_rfl) (by kernel_rfl) (fun h => Bool.noConfusion h) (fun _ => ?_)
               refine T.skip_code ?_
               refine T.region ?_
               refine T.pure (.int .i64 (IntKind.i64.wrap (x6 + 1))) (by kernel_rfl) (fun _ => by kernel_rfl) ?_
               refine T.pure (.int .i64 (IntKind.i64.wrap (x6 + 1))) (by kernel_rfl) (fun _ => by kernel_rfl) ?_
               refine T.nil ?_
               cases hY2
               exact fun a w' hf hh => Exists.intro (z8, IntKind.i64.wrap (x6 + 1)) (And.intro rfl (Exists.intro z8 (Exists.intro (IntKind.i64.wrap (x6 + 1)) (And.intro rfl (Exists.intro A18 (Exists.intro c18 (Exists.intro A16 (Exists.intro c16 (Exists.intro V18 (And.intro (View.le_trans hV16 hV18) (And.intro (SlOk.mono hs6 hV18) (And.intro (((((((Fr.nil hf).pick hf 48 rfl).pick hf 47 rfl).pick hf 46 rfl).pick hf 6 rfl).pick hf 4 rfl).pick hf 3 rfl) (hh.sub (List.Sublist.refl _))))))))))))))
              | succ k9 =>
               rw [natCase_succ] at hY2
               refine T.cond true (by kernel_rfl) (by kernel_rfl) (fun _ => ?_) (fun h => Bool.noConfusion h)
               refine T.seq ?_
               refine T.region ?_
               refine T.pure (.bool false) (by kernel_rfl) (fun _ => by kernel_rfl) ?_
               refine T.nil ?_
               cases hY2
               cases (hr3 _ rfl)
               try dsimp only at hS1
               have hres := Option.some.inj hS1
               subst hres
               refine T.ret rfl ?_
               repeat first | refine T.unthen ?_ | refine T.unblock ?_
               exact T.ret1 rfl (ResIs.tmp rfl) fun w' hh => ⟨_, rfl, Exists.intro z8 (Exists.intro (k9 + 1) (And.intro rfl (Exists.intro A18 (Exists.intro c18 (Exists.intro V18 (And.intro (View.le_trans (View.le_trans hV9 hV16) hV18) (And.intro rfl (hh.sub (.cons _ (.cons _ (List.Sublist.refl _)))))))))))⟩
            ·
             rw [hc9, cond_false] at hY2
             refine T.exit ?_
             cases hY2
             cases (hr3 _ rfl)
             exact fun a w' hf hh => Exists.intro x5 (And.intro rfl (Exists.intro A15 (Exists.intro c15 (Exists.intro V16 (And.intro hV16 (And.intro (Fr.nil hf) (hh.sub (.cons _ (.cons _ (List.Sublist.refl _))))))))))
          ·
           rintro a w' ⟨z7, rfl, A17, c17, V17, hV17, hf, hh⟩
           try dsimp only at hS1
           refine (?_ : T 59 w V17 ((row 39 eElem A17 c17 z7) :: (loopo l1 lr1 (.exit 0) [] 0) :: (marko d1) :: (box b5 29 [.slice A17 z7.length c17]) :: (box b4 3 [.int .i64 p3]) :: (box b3 34 (cKPastRL p2)) :: G2) [] _) a w' hf hh
           clear hf hh
           refine T.seq ?_
           refine T.region ?_
           refine T.pure (.bool true) (by kernel_rfl) (fun _ => by kernel_rfl) ?_
           refine T.nil ?_
           have hres := Option.some.inj hS1
           subst hres
           refine T.ret rfl ?_
           repeat first | refine T.unthen ?_ | refine T.unblock ?_
           exact T.ret1 rfl (ResIs.tmp rfl) fun w' hh => ⟨_, rfl, Exists.intro z7 (Exists.intro 0 (And.intro rfl (Exists.intro A17 (Exists.intro c17 (Exists.intro V17 (And.intro (View.le_trans hV9 hV17) (And.intro rfl (hh.sub (List.Sublist.refl _)))))))))⟩
       ·
        refine T.step (W1.callI 57 [.agg #[.int .i64 p0.root, .slice A1 p0.nodes.length c1], .int .i64 p0.root, .agg #[.int .i64 p1.pfs, .int .i64 p1.obj, .int .i64 p1.off, .int .i64 0], .func (.yield l1) #[] #[]] (fun v w' => ∃ (z11 : List DElem) (z12 : Nat), q2 = (z11, z12) ∧ ∃ (A20 : Option Addr) (c20 : Nat) (V20 : View), View.le V3 V20 ∧ v = .bool (isz z12) ∧ Hp w V20 [row 39 eElem A20 c20 z11, loopo l1 lr1 (.exit 0) [] z12, marko d1, box b5 29 [.slice A20 z11.length c20], box b4 3 [.int .i64 p3], box b3 34 (cKPastRL p2), box b7 36 [.int .i64 p1.pfs, .int .i64 p1.obj, .int .i64 p1.off, .int .i64 0], box b6 24 [.int .i64 p0.root, .slice A1 p0.nodes.length c1], box b2 34 (cKPastRL p1), box b1 24 [.int .i64 p0.root, .slice A1 p0.nodes.length c1]] w') (by kernel_rfl) (fun _ => by kernel_rfl) (fun w' hh => hq1 [] p0.root rfl none 0 V3 [box b7 36 [.int .i64 p1.pfs, .int .i64 p1.obj, .int .i64 p1.off, .int .i64 0], box b6 24 [.int .i64 p0.root, .slice A1 p0.nodes.length c1], box b2 34 (cKPastRL p1), box b1 24 [.int .i64 p0.root, .slice A1 p0.nodes.length c1]] w' (View.le_refl _) ((hh.sub (.cons_cons _ (.cons_cons _ (.cons_cons _ (.cons_cons _ (.cons_cons _ (.cons_cons _ (.cons_cons _ (.cons_cons _ (.cons_cons _ (.cons_cons _ List.Sublist.slnil))))))))))).perm (List.Perm.cons _ (List.Perm.cons _ (List.Perm.cons _ (List.Perm.trans (List.Perm.cons _ (List.Perm.swap _ _ _)) (List.Perm.trans (List.Perm.swap _ _ _) (List.Perm.cons _ (List.Perm.trans (List.Perm.cons _ (List.Perm.swap _ _ _)) (List.Perm.trans (List.Perm.swap _ _ _) (List.Perm.cons _ (List.Perm.trans (List.Perm.cons _ (List.Perm.swap _ _ _)) (List.Perm.trans (List.Perm.swap _ _ _) (List.Perm.refl _)))))))))))))) ?_)
        rintro v w' ⟨z11, z12, rfl, A20, c20, V20, hV20, rfl, hh⟩
        try dsimp only at hX2
        refine ⟨V20, [row 39 eElem A20 c20 z11, loopo l1 lr1 (.exit 0) [] z12, marko d1, box b7 36 [.int .i64 p1.pfs, .int .i64 p1.obj, .int .i64 p1.off, .int .i64 0], box b6 24 [.int .i64 p0.root, .slice A1 p0.nodes.length c1], box b5 29 [.slice A20 z11.length c20], box b4 3 [.int .i64 p3], box b3 34 (cKPastRL p2), box b2 34 (cKPastRL p1), box b1 24 [.int .i64 p0.root, .slice A1 p0.nodes.length c1]], (hh.sub (.cons_cons _ (.cons_cons _ (.cons_cons _ (.cons_cons _ (.cons_cons _ (.cons_cons _ (.cons_cons _ (.cons_cons _ (.cons_cons _ (.cons_cons _ List.Sublist.slnil))))))))))).perm (List.Perm.cons _ (List.Perm.cons _ (List.Perm.cons _ (List.Perm.trans (List.Perm.cons _ (List.Perm.cons _ (List.Perm.swap _ _ _))) (List.Perm.trans (List.Perm.cons _ (List.Perm.swap _ _ _)) (List.Perm.trans (List.Perm.swap _ _ _) (List.Perm.cons _ (List.Perm.trans (List.Perm.cons _ (List.Perm.cons _ (List.Perm.swap _ _ _))) (List.Perm.trans (List.Perm.cons _ (List.Perm.swap _ _ _)) (List.Perm.trans (List.Perm.swap _ _ _) (List.Perm.refl _))))))))))), ?_⟩
        clear hh
        cases z12 with
        | zero =>
         rw [natCase_zero] at hX2
         refine T.nil ?_
         cases hX2
         repeat first | refine T.unthenN ?_ | refine T.unblockN ?_
         exact T.end0 rfl (fun w' hh => ⟨_, rfl, Exists.intro z11 (Exists.intro 0 (And.intro rfl (Exists.intro A20 (Exists.intro c20 (Exists.intro V20 (And.intro hV20 ((hh.sub (.cons_cons _ (.cons_cons _ (.cons_cons _ (.cons _ (.cons _ (.cons_cons _ (.cons _ (.cons _ (.cons _ (.cons _ List.Sublist.slnil))))))))))).perm (List.Perm.trans (List.Perm.swap _ _ _) (List.Perm.refl _)))))))))⟩)
        | succ k10 =>
         rw [natCase_succ] at hX2
         refine T.nil ?_
         cases hX2
         repeat first | refine T.unthenN ?_ | refine T.unblockN ?_
         exact T.end0 rfl (fun w' hh => ⟨_, rfl, Exists.intro z11 (Exists.intro (k10 + 1) (And.intro rfl (Exists.intro A20 (Exists.intro c20 (Exists.intro V20 (And.intro hV20 ((hh.sub (.cons_cons _ (.cons_cons _ (.cons_cons _ (.cons _ (.cons _ (.cons_cons _ (.cons _ (.cons _ (.cons _ (.cons _ List.Sublist.slnil))))))))))).perm (List.Perm.trans (List.Perm.swap _ _ _) (List.Perm.refl _)))))))))⟩)
      ·
       rintro l1 d1 lr1 w' ⟨z2, k1, rfl, A3, c3, V5, hV5, hh⟩
       try dsimp only at hX1
       refine ⟨V5, [row 39 eElem A3 c3 z2, marko d1, box b5 29 [.slice A3 z2.length c3]], k1, hh, ?_⟩
       clear hh
       cases k1 with
       | zero =>
        rw [natCase_zero] at hX1
        rw [natCase_zero]
        cases hX1
        exact fun a w' hf hh => Exists.intro A3 (Exists.intro c3 (Exists.intro d1 (Exists.intro V5 (And.intro hV5 (And.intro ((Fr.nil hf).pick hf 13 rfl) (hh.sub (.cons_cons _ (.cons_cons _ (.cons_cons _ List.Sublist.slnil)))))))))
       | succ k11 =>
        rw [natCase_succ] at hX1
        rw [natCase_succ]
        rw [pick_nil]
        refine T.exit ?_
        cases hX1
        exact fun a w' hf hh => Exists.intro A3 (Exists.intro c3 (Exists.intro d1 (Exists.intro V5 (And.intro hV5 (And.intro ((Fr.nil hf).pick hf 13 rfl) (hh.sub (.cons_cons _ (.cons_cons _ (.cons_cons _ List.Sublist.slnil)))))))))
    ·
     rintro a w' ⟨A2, c2, d1, V4, hV4, hf, hh⟩
     refine (?_ : T ⟨48, [d1]⟩ w V4 [row 39 eElem A2 c2 z1, marko d1, box b5 29 [.slice A2 z1.length c2]] [(13, .pointer (some ⟨b5, 0, none⟩))] _) a w' hf hh
     clear hf hh
     refine T.seq ?_
     refine T.region ?_
     refine T.look (.slice A2 z1.length c2) (by kernel_rfl) (fun w' hh => exec_load1 rfl rfl (by kernel_rfl) (hh.cellBox (i := 2) (by rfl) 0)) ?_
     refine T.pure (.slice A2 z1.length c2) (by kernel_rfl) (fun _ => by kernel_rfl) ?_
     refine T.pure (.int .i64 0) (by kernel_rfl) (fun _ => by kernel_rfl) ?_
     refine T.nil ?_
     cases hF
     refine T.ret rfl ?_
     refine T.leaveM [row 39 eElem A2 c2 z1, box b5 29 [.slice A2 z1.length c2]] [d1] (fun w' hh => (hh.sub (.cons_cons _ (.cons_cons _ (.cons_cons _ List.Sublist.slnil)))).perm (List.Perm.trans (List.Perm.swap _ _ _) (List.Perm.refl _))) ?_
     exact T.ret2 rfl (ResIs.tmp rfl) (ResIs.tmp rfl) fun w' hh => ⟨_, rfl, hh.below, (vT2.mk ⟨_, _, rfl, (hh.row_fresh (i := 0) (by rfl) (fun _ h => h))⟩ (show _ from rfl))⟩

end Go.Proofs.Ytoaopihihccfkaa
