/- The Go functions of group PastA compute the pure functions of that group: written by walkgen.py. Condition of each: the pure function yields a result. -/
import Derived.Test.YtoaopihihccfkaaPastCL
import Derived.Test.YtoaopihihccfkaaRange
import Derived.Test.YtoaopihihccfkaaClear
import Derived.Test.YtoaopihihccfkaaPastAF
import Derived.Test.YtoaopihihccfkaaEqL
namespace Go.Proofs.Ytoaopihihccfkaa
abbrev cEPastAL (x : DElem) : List Value := [.int .i64 x.key.pfs, .int .i64 x.key.obj, .int .i64 x.key.off, .int .i64 x.made, .int .i64 x.gone, .string x.val]
abbrev cKPastAL (x : DKey) : List Value := [.int .i64 x.pfs, .int .i64 x.obj, .int .i64 x.off]
abbrev cNPastAL (x : DNode) (A : Option Addr) (a : Nat) (B : Option Addr) (b : Nat) (C : Option Addr) (c : Nat) (D : Option Addr) (d : Nat) : List Value := [.int .i64 x.kind, .slice A x.elems.length a, .slice B x.kids.length b, .slice C x.seps.length c, .slice D x.tids.length d]
set_option linter.unusedVariables false

set_option maxRecDepth 100000 in
set_option maxHeartbeats 4000000 in
theorem past_At_l (F : Nat) (p0 : DTree) (p1 : DKey) (p2 : Int) (r : DElem × Int) (hF : past_At F p0 p1 p2 = some r) (w : World) (A1 : Option Addr) (c1 : Nat) (hs1 : SlOk (vw w) eNode A1 c1 p0.nodes) :
    Calls Try.prog 30 #[.agg #[.int .i64 p0.root, .slice A1 p0.nodes.length c1], .agg #[.int .i64 p1.pfs, .int .i64 p1.obj, .int .i64 p1.off], .int .i64 p2] w (Post (vT2 (vAg eElem) (vSc eInt)) r w) := by
 unfold past_At at hF
 refine T.startM (l := [.agg #[.int .i64 p0.root, .slice A1 p0.nodes.length c1], .agg #[.int .i64 p1.pfs, .int .i64 p1.obj, .int .i64 p1.off], .int .i64 p2]) Try.func30 rfl rfl rfl ?_
 refine T.seq ?_
 refine T.region ?_
 refine T.step (W1.new 24 [.int .i64 p0.root, .slice A1 p0.nodes.length c1] (fun b => .pointer (some ⟨b, 0, none⟩)) (by kernel_rfl) (fun _ => by kernel_rfl) (fun b1 => ?_))
 refine T.step (W1.new 34 (cKPastAL p1) (fun b => .pointer (some ⟨b, 0, none⟩)) (by kernel_rfl) (fun _ => by kernel_rfl) (fun b2 => ?_))
 refine T.step (W1.new 3 [.int .i64 p2] (fun b => .pointer (some ⟨b, 0, none⟩)) (by kernel_rfl) (fun _ => by kernel_rfl) (fun b3 => ?_))
 refine T.step (W1.new 39 [.int .i64 0, .int .i64 0, .int .i64 0, .int .i64 0, .int .i64 0, .string (ByteArray.mk #[])] (fun b => .pointer (some ⟨b, 0, none⟩)) (by kernel_rfl) (fun _ => by kernel_rfl) (fun b4 => ?_))
 refine T.step (W1.new 25 [.int .i64 0] (fun b => .pointer (some ⟨b, 0, none⟩)) (by kernel_rfl) (fun _ => by kernel_rfl) (fun b5 => ?_))
 refine T.nil ?_
 refine T.seq ?_
 refine T.seq ?_
 refine T.region ?_
 refine T.look (.agg #[.int .i64 p0.root, .slice A1 p0.nodes.length c1]) (by kernel_rfl) (fun w' hh => exec_loadN (cs := [.int .i64 p0.root, .slice A1 p0.nodes.length c1]) rfl rfl (by kernel_rfl) (by kernel_rfl) (fun j u hj => (hh.box_at (i := 4) (cs := [.int .i64 p0.root, .slice A1 p0.nodes.length c1]) (by rfl) 0 j).trans (seg_at (n := 2) (by rfl) hj))) ?_
 obtain ⟨r1, hb1, hF⟩ := Option.bind_eq_some_iff.1 hF
 refine T.step (W1.call (vSc eInt) r1 31 #[.agg #[.int .i64 p0.root, .slice A1 p0.nodes.length c1]] (by kernel_rfl) (fun _ => by kernel_rfl) (fun w' hh => past_Check_l F p0 r1 hb1 w' A1 c1 (SlOk.mono hs1 hh.view)) ?_)
 intro u V1 hV1 hu
 obtain rfl := sureInt _ _ _ hu
 refine T.pure (.int .i64 r1) (by kernel_rfl) (fun _ => by kernel_rfl) ?_
 refine T.nil ?_
 refine T.seq ?_
 refine T.region ?_
 refine T.pure (.int .i64 r1) (by kernel_rfl) (fun _ => by kernel_rfl) ?_
 refine T.pure (.bool (r1 != 0)) (by kernel_rfl) (fun _ => by kernel_rfl) ?_
 refine T.nil ?_
 refine T.cond (r1 != 0) (by kernel_rfl) (by kernel_rfl) (fun hc1 => ?_) (fun hc1 => ?_)
 ·
  rw [hc1, cond_true] at hF
  refine T.seq ?_
  refine T.region ?_
  refine T.pure (.agg #[.int .i64 0, .int .i64 0, .int .i64 0, .int .i64 0, .int .i64 0, .string (ByteArray.mk #[])]) (by kernel_rfl) (fun _ => by kernel_rfl) ?_
  refine T.pure (.int .i64 r1) (by kernel_rfl) (fun _ => by kernel_rfl) ?_
  refine T.step (W1.store 1 [.int .i64 0, .int .i64 0, .int .i64 0, .int .i64 0, .int .i64 0, .string (ByteArray.mk #[])] [box b5 25 [.int .i64 0], box b4 39 [.int .i64 0, .int .i64 0, .int .i64 0, .int .i64 0, .int .i64 0, .string (ByteArray.mk #[])], box b3 3 [.int .i64 p2], box b2 34 (cKPastAL p1), box b1 24 [.int .i64 p0.root, .slice A1 p0.nodes.length c1]] (by rfl) rfl (by kernel_rfl) (fun w' hw => exec_store (vs := [.int .i64 0, .int .i64 0, .int .i64 0, .int .i64 0, .int .i64 0, .string (ByteArray.mk #[])]) rfl rfl rfl rfl (by kernel_rfl) (one_of rfl) (by simp) rfl hw) ?_)
  refine T.step (W1.store 0 [.int .i64 r1] [box b5 25 [.int .i64 r1], box b4 39 [.int .i64 0, .int .i64 0, .int .i64 0, .int .i64 0, .int .i64 0, .string (ByteArray.mk #[])], box b3 3 [.int .i64 p2], box b2 34 (cKPastAL p1), box b1 24 [.int .i64 p0.root, .slice A1 p0.nodes.length c1]] (by rfl) rfl (by kernel_rfl) (fun w' hw => exec_store (vs := [.int .i64 r1]) rfl rfl rfl rfl (by kernel_rfl) (one_of rfl) (by simp) rfl hw) ?_)
  refine T.nil ?_
  cases hF
  refine T.ret rfl ?_
  refine T.leaveM [box b5 25 [.int .i64 r1], box b4 39 [.int .i64 0, .int .i64 0, .int .i64 0, .int .i64 0, .int .i64 0, .string (ByteArray.mk #[])], box b3 3 [.int .i64 p2], box b2 34 (cKPastAL p1), box b1 24 [.int .i64 p0.root, .slice A1 p0.nodes.length c1]] [] (fun w' hh => hh.sub (.cons_cons _ (.cons_cons _ (.cons_cons _ (.cons_cons _ (.cons_cons _ List.Sublist.slnil)))))) ?_
  exact T.ret2 rfl (ResIs.cellN 1 rfl (by rfl) (fun _ => by kernel_rfl) (fun _ => by kernel_rfl)) (ResIs.cell1 0 rfl (by rfl) (fun _ => by kernel_rfl)) fun w' hh => ⟨_, rfl, hh.below, (vT2.mk (vAg.mk rfl) (show _ from rfl))⟩
 ·
  rw [hc1, cond_false] at hF
  refine T.skip_code ?_
  refine T.seq ?_
  refine T.seq ?_
  refine T.region ?_
  refine T.look (.agg #[.int .i64 p1.pfs, .int .i64 p1.obj, .int .i64 p1.off]) (by kernel_rfl) (fun w' hh => exec_loadN (cs := (cKPastAL p1)) rfl rfl (by kernel_rfl) (by kernel_rfl) (fun j u hj => (hh.box_at (i := 3) (cs := (cKPastAL p1)) (by rfl) 0 j).trans (seg_at (n := 3) (by rfl) hj))) ?_
  obtain ⟨r2, hb2, hF⟩ := Option.bind_eq_some_iff.1 hF
  refine T.step (W1.call (vSc eInt) r2 50 #[.agg #[.int .i64 p1.pfs, .int .i64 p1.obj, .int .i64 p1.off]] (by kernel_rfl) (fun _ => by kernel_rfl) (fun w' hh => key_Check_l p1 r2 hb2 w' ) ?_)
  intro u V2 hV2 hu
  obtain rfl := sureInt _ _ _ hu
  refine T.pure (.int .i64 r2) (by kernel_rfl) (fun _ => by kernel_rfl) ?_
  refine T.nil ?_
  refine T.seq ?_
  refine T.region ?_
  refine T.pure (.int .i64 r2) (by kernel_rfl) (fun _ => by kernel_rfl) ?_
  refine T.pure (.bool (r2 != 0)) (by kernel_rfl) (fun _ => by kernel_rfl) ?_
  refine T.nil ?_
  refine T.cond (r2 != 0) (by kernel_rfl) (by kernel_rfl) (fun hc2 => ?_) (fun hc2 => ?_)
  ·
   rw [hc2, cond_true] at hF
   refine T.seq ?_
   refine T.region ?_
   refine T.pure (.agg #[.int .i64 0, .int .i64 0, .int .i64 0, .int .i64 0, .int .i64 0, .string (ByteArray.mk #[])]) (by kernel_rfl) (fun _ => by kernel_rfl) ?_
   refine T.pure (.int .i64 r2) (by kernel_rfl) (fun _ => by kernel_rfl) ?_
   refine T.step (W1.store 1 [.int .i64 0, .int .i64 0, .int .i64 0, .int .i64 0, .int .i64 0, .string (ByteArray.mk #[])] [box b5 25 [.int .i64 0], box b4 39 [.int .i64 0, .int .i64 0, .int .i64 0, .int .i64 0, .int .i64 0, .string (ByteArray.mk #[])], box b3 3 [.int .i64 p2], box b2 34 (cKPastAL p1), box b1 24 [.int .i64 p0.root, .slice A1 p0.nodes.length c1]] (by rfl) rfl (by kernel_rfl) (fun w' hw => exec_store (vs := [.int .i64 0, .int .i64 0, .int .i64 0, .int .i64 0, .int .i64 0, .string (ByteArray.mk #[])]) rfl rfl rfl rfl (by kernel_rfl) (one_of rfl) (by simp) rfl hw) ?_)
   refine T.step (W1.store 0 [.int .i64 r2] [box b5 25 [.int .i64 r2], box b4 39 [.int .i64 0, .int .i64 0, .int .i64 0, .int .i64 0, .int .i64 0, .string (ByteArray.mk #[])], box b3 3 [.int .i64 p2], box b2 34 (cKPastAL p1), box b1 24 [.int .i64 p0.root, .slice A1 p0.nodes.length c1]] (by rfl) rfl (by kernel_rfl) (fun w' hw => exec_store (vs := [.int .i64 r2]) rfl rfl rfl rfl (by kernel_rfl) (one_of rfl) (by simp) rfl hw) ?_)
   refine T.nil ?_
   cases hF
   refine T.ret rfl ?_
   refine T.leaveM [box b5 25 [.int .i64 r2], box b4 39 [.int .i64 0, .int .i64 0, .int .i64 0, .int .i64 0, .int .i64 0, .string (ByteArray.mk #[])], box b3 3 [.int .i64 p2], box b2 34 (cKPastAL p1), box b1 24 [.int .i64 p0.root, .slice A1 p0.nodes.length c1]] [] (fun w' hh => hh.sub (.cons_cons _ (.cons_cons _ (.cons_cons _ (.cons_cons _ (.cons_cons _ List.Sublist.slnil)))))) ?_
   exact T.ret2 rfl (ResIs.cellN 1 rfl (by rfl) (fun _ => by kernel_rfl) (fun _ => by kernel_rfl)) (ResIs.cell1 0 rfl (by rfl) (fun _ => by kernel_rfl)) fun w' hh => ⟨_, rfl, hh.below, (vT2.mk (vAg.mk rfl) (show _ from rfl))⟩
  ·
   rw [hc2, cond_false] at hF
   refine T.skip_code ?_
   obtain ⟨q1, hX1, hF⟩ := Option.bind_eq_some_iff.1 hF
   refine T.cut (fun a w' => ∃ (z1 : Int) (z2 : Int) (z3 : Int) (z4 : Int) (z5 : Int) (z6 : ByteArray), q1 = Sum.inl (z1, z2, z3, z4, z5, z6) ∧ ∃ (d1 : Nat) (V3 : View), View.le V2 V3 ∧ Fr ⟨37, [d1]⟩ [(6, .pointer (some ⟨b4, 0, none⟩)), (7, .pointer (some ⟨b5, 0, none⟩))] a ∧ Hp w V3 [marko d1, box b5 25 [.int .i64 0], box b4 39 [.int .i64 z1, .int .i64 z2, .int .i64 z3, .int .i64 z4, .int .i64 z5, .string z6]] w') ?_ ?_
   ·
    refine T.seq ?_
    refine T.region ?_
    refine T.look (.agg #[.int .i64 p0.root, .slice A1 p0.nodes.length c1]) (by kernel_rfl) (fun w' hh => exec_loadN (cs := [.int .i64 p0.root, .slice A1 p0.nodes.length c1]) rfl rfl (by kernel_rfl) (by kernel_rfl) (fun j u hj => (hh.box_at (i := 4) (cs := [.int .i64 p0.root, .slice A1 p0.nodes.length c1]) (by rfl) 0 j).trans (seg_at (n := 2) (by rfl) hj))) ?_
    refine T.look (.agg #[.int .i64 p1.pfs, .int .i64 p1.obj, .int .i64 p1.off]) (by kernel_rfl) (fun w' hh => exec_loadN (cs := (cKPastAL p1)) rfl rfl (by kernel_rfl) (by kernel_rfl) (fun j u hj => (hh.box_at (i := 3) (cs := (cKPastAL p1)) (by rfl) 0 j).trans (seg_at (n := 3) (by rfl) hj))) ?_
    refine T.pure (.agg #[.int .i64 p1.pfs, .int .i64 p1.obj, .int .i64 p1.off, .int .i64 0]) (by kernel_rfl) (fun _ => by kernel_rfl) ?_
    refine T.step (W1.within 44 [.agg #[.int .i64 p0.root, .slice A1 p0.nodes.length c1], .agg #[.int .i64 p1.pfs, .int .i64 p1.obj, .int .i64 p1.off, .int .i64 0]] (fun v w' => ∃ (b7 : Nat) (b6 : Nat), v = .func (.func 56) #[] #[.pointer (some ⟨b6, 0, none⟩), .pointer (some ⟨b7, 0, none⟩)] ∧ Hp w V2 [box b7 36 [.int .i64 p1.pfs, .int .i64 p1.obj, .int .i64 p1.off, .int .i64 0], box b6 24 [.int .i64 p0.root, .slice A1 p0.nodes.length c1], box b5 25 [.int .i64 0], box b4 39 [.int .i64 0, .int .i64 0, .int .i64 0, .int .i64 0, .int .i64 0, .string (ByteArray.mk #[])], box b3 3 [.int .i64 p2], box b2 34 (cKPastAL p1), box b1 24 [.int .i64 p0.root, .slice A1 p0.nodes.length c1]] w') Try.func44 rfl rfl (by kernel_rfl) (fun _ => by kernel_rfl) rfl ?_ ?_)
    ·
     refine T.seq ?_
     refine T.region ?_
     refine T.step (W1.new 24 [.int .i64 p0.root, .slice A1 p0.nodes.length c1] (fun b => .pointer (some ⟨b, 0, none⟩)) (by kernel_rfl) (fun _ => by kernel_rfl) (fun b6 => ?_))
     refine T.step (W1.new 36 [.int .i64 p1.pfs, .int .i64 p1.obj, .int .i64 p1.off, .int .i64 0] (fun b => .pointer (some ⟨b, 0, none⟩)) (by kernel_rfl) (fun _ => by kernel_rfl) (fun b7 => ?_))
     refine T.pure (.nilFunc) (by kernel_rfl) (fun _ => by kernel_rfl) ?_
     refine T.nil ?_
     refine T.seq ?_
     refine T.region ?_
     refine T.pure (.func (.func 56) #[] #[.pointer (some ⟨b6, 0, none⟩), .pointer (some ⟨b7, 0, none⟩)]) (by kernel_rfl) (fun _ => by kernel_rfl) ?_
     refine T.pure (.func (.func 56) #[] #[.pointer (some ⟨b6, 0, none⟩), .pointer (some ⟨b7, 0, none⟩)]) (by kernel_rfl) (fun _ => by kernel_rfl) ?_
     refine T.nil ?_
     refine T.ret rfl ?_
     exact T.ret1 rfl (ResIs.tmp rfl) fun w' hh => ⟨_, rfl, Exists.intro b7 (Exists.intro b6 (And.intro rfl (hh.sub (.cons_cons _ (.cons_cons _ (.cons_cons _ (.cons_cons _ (.cons_cons _ (.cons_cons _ (.cons_cons _ List.Sublist.slnil))))))))))⟩
    ·
     rintro v w' ⟨b7, b6, rfl, hh⟩
     refine ⟨V2, [box b7 36 [.int .i64 p1.pfs, .int .i64 p1.obj, .int .i64 p1.off, .int .i64 0], box b6 24 [.int .i64 p0.root, .slice A1 p0.nodes.length c1], box b5 25 [.int .i64 0], box b4 39 [.int .i64 0, .int .i64 0, .int .i64 0, .int .i64 0, .int .i64 0, .string (ByteArray.mk #[])], box b3 3 [.int .i64 p2], box b2 34 (cKPastAL p1), box b1 24 [.int .i64 p0.root, .slice A1 p0.nodes.length c1]], hh, ?_⟩
     clear hh
     refine T.nil ?_
     refine T.block ?_
     obtain ⟨q2, hX2, hX1⟩ := Option.bind_eq_some_iff.1 hX1
     refine T.range (gf := 56) (lb := [.pointer (some ⟨b6, 0, none⟩), .pointer (some ⟨b7, 0, none⟩)]) (.exit 0) [.ret] (fun l1 d1 lr1 w' => ∃ (k1 : Nat) (z7 : Int) (z8 : Int) (z9 : Int) (z10 : Int) (z11 : Int) (z12 : ByteArray), q2 = (k1, z7, z8, z9, z10, z11, z12) ∧ ∃ (V4 : View), View.le V2 V4 ∧ Hp w V4 [loopo l1 lr1 (.exit 0) [.ret] k1, marko d1, box b5 25 [.int .i64 0], box b4 39 [.int .i64 z7, .int .i64 z8, .int .i64 z9, .int .i64 z10, .int .i64 z11, .string z12]] w') (by kernel_rfl) (by kernel_rfl) (fun _ _ => by kernel_rfl) ?_ ?_
     ·
      intro l1 d1 lr1 hl1 hl2 hl3 hl4 w1 hh
      refine T.startI (l := [.func (.yield l1) #[] #[], .pointer (some ⟨b6, 0, none⟩), .pointer (some ⟨b7, 0, none⟩)]) Try.func56 rfl rfl rfl ?_ hh
      clear hh
      refine T.region ?_
      refine T.look (.agg #[.int .i64 p0.root, .slice A1 p0.nodes.length c1]) (by kernel_rfl) (fun w' hh => exec_loadN (cs := [.int .i64 p0.root, .slice A1 p0.nodes.length c1]) rfl rfl (by kernel_rfl) (by kernel_rfl) (fun j u hj => (hh.box_at (i := 3) (cs := [.int .i64 p0.root, .slice A1 p0.nodes.length c1]) (by rfl) 0 j).trans (seg_at (n := 2) (by rfl) hj))) ?_
      refine T.pure (.pointer (some ⟨b6, 0, none⟩)) (by kernel_rfl) (fun _ => by kernel_rfl) ?_
      refine T.look (.int .i64 p0.root) (by kernel_rfl) (fun w' hh => exec_load1 rfl rfl (by kernel_rfl) (hh.cellBox (i := 3) (by rfl) 0)) ?_
      refine T.look (.agg #[.int .i64 p1.pfs, .int .i64 p1.obj, .int .i64 p1.off, .int .i64 0]) (by kernel_rfl) (fun w' hh => exec_loadN (cs := [.int .i64 p1.pfs, .int .i64 p1.obj, .int .i64 p1.off, .int .i64 0]) rfl rfl (by kernel_rfl) (by kernel_rfl) (fun j u hj => (hh.box_at (i := 2) (cs := [.int .i64 p1.pfs, .int .i64 p1.obj, .int .i64 p1.off, .int .i64 0]) (by rfl) 0 j).trans (seg_at (n := 4) (by rfl) hj))) ?_
      refine T.pure (.func (.yield l1) #[] #[]) (by kernel_rfl) (fun _ => by kernel_rfl) ?_
      obtain ⟨q3, hz1, hX2⟩ := Option.bind_eq_some_iff.1 hX2
      refine (have hq1 := fix_rec (fun (s_ : Int × Int × Int × Int × Int × ByteArray × Int) (r_ : Nat × Int × Int × Int × Int × Int × ByteArray) => ∀ (x1 : Int) (x2 : Int) (x3 : Int) (x4 : Int) (x5 : Int) (x6 : ByteArray) (x7 : Int), s_ = (x1, x2, x3, x4, x5, x6, x7) → ∀ (V5 : View) (G1 : List HObj) (w1 : World), View.le V2 V5 → Hp w V5 ((loopo l1 lr1 (.exit 0) [.ret] 0) :: (marko d1) :: (box b5 25 [.int .i64 0]) :: (box b4 39 [.int .i64 x1, .int .i64 x2, .int .i64 x3, .int .i64 x4, .int .i64 x5, .string x6]) :: (box b3 3 [.int .i64 p2]) :: (box b2 34 (cKPastAL p1)) :: G1) w1 → Calls Try.prog 57 #[.agg #[.int .i64 p0.root, .slice A1 p0.nodes.length c1], .int .i64 x7, .agg #[.int .i64 p1.pfs, .int .i64 p1.obj, .int .i64 p1.off, .int .i64 0], .func (.yield l1) #[] #[]] w1 (fun e w2 => ∃ v, e = .returned v ∧ ∃ (k2 : Nat) (z13 : Int) (z14 : Int) (z15 : Int) (z16 : Int) (z17 : Int) (z18 : ByteArray), r_ = (k2, z13, z14, z15, z16, z17, z18) ∧ ∃ (V6 : View), View.le V5 V6 ∧ v = .bool (isz k2) ∧ Hp w V6 ((loopo l1 lr1 (.exit 0) [.ret] k2) :: (marko d1) :: (box b5 25 [.int .i64 0]) :: (box b4 39 [.int .i64 z13, .int .i64 z14, .int .i64 z15, .int .i64 z16, .int .i64 z17, .string z18]) :: (box b3 3 [.int .i64 p2]) :: (box b2 34 (cKPastAL p1)) :: G1) w2)) hz1 ?_; ?_)
      ·
       rintro rf1 ih1 s_ r_ hS1 x1 x2 x3 x4 x5 x6 x7 rfl V5 G1 w1 hV5 hh
       try dsimp only at hS1
       refine T.startI (l := [.agg #[.int .i64 p0.root, .slice A1 p0.nodes.length c1], .int .i64 x7, .agg #[.int .i64 p1.pfs, .int .i64 p1.obj, .int .i64 p1.off, .int .i64 0], .func (.yield l1) #[] #[]]) Try.func57 rfl rfl rfl ?_ hh
       clear hh
       refine T.seq ?_
       refine T.region ?_
       refine T.step (W1.new 24 [.int .i64 p0.root, .slice A1 p0.nodes.length c1] (fun b => .pointer (some ⟨b, 0, none⟩)) (by kernel_rfl) (fun _ => by kernel_rfl) (fun b8 => ?_))
       refine T.step (W1.new 36 [.int .i64 p1.pfs, .int .i64 p1.obj, .int .i64 p1.off, .int .i64 0] (fun b => .pointer (some ⟨b, 0, none⟩)) (by kernel_rfl) (fun _ => by kernel_rfl) (fun b9 => ?_))
       refine T.pure (.bool false) (by kernel_rfl) (fun _ => by kernel_rfl) ?_
       refine T.nil ?_
       refine T.seq ?_
       refine T.region ?_
       refine T.pure (.pointer (some ⟨b8, 1, none⟩)) (by kernel_rfl) (fun _ => by kernel_rfl) ?_
       refine T.look (.slice A1 p0.nodes.length c1) (by kernel_rfl) (fun w' hh => exec_load1 rfl rfl (by kernel_rfl) (hh.cellBox (i := 1) (by rfl) 1)) ?_
       refine T.pure (.int .i64 x7) (by kernel_rfl) (fun _ => by kernel_rfl) ?_
       obtain ⟨e1, hb3, hS1⟩ := Option.bind_eq_some_iff.1 hS1
       obtain ⟨hi1, hi2, hi3⟩ := idx_some hb3
       obtain ⟨cs1, hr1, hc3⟩ := SlOk.elem (SlOk.mono hs1 (View.le_trans (View.le_trans hV1 hV2) hV5)) hi3
       obtain ⟨A2, c2, A3, c3, A4, c4, A5, c5, rfl, hs2, hs3, hs4, hs5⟩ := hr1
       refine T.look (.pointer (some ((sadr A1).add (x7.toNat * 5)))) (by kernel_rfl) (fun w' hh => exec_indexAddr (e := 57) (s := 5) rfl rfl rfl (by kernel_rfl) (by kernel_rfl) hi1 hi2 ((SlOk.mono hs1 (View.le_trans (View.le_trans hV1 hV2) hV5)).some_ hi3 (by decide))) ?_
       refine T.look (.agg #[.int .i64 e1.kind, .slice A2 e1.elems.length c2, .slice A3 e1.kids.length c3, .slice A4 e1.seps.length c4, .slice A5 e1.tids.length c5]) (by kernel_rfl) (fun w' hh => exec_loadN (cs := (cNPastAL e1 A2 c2 A3 c3 A4 c4 A5 c5)) rfl rfl (by kernel_rfl) (by kernel_rfl) (fun j u hj => hh.cell_view (View.cell_mono (View.le_refl _) (hc3 j u hj).2))) ?_
       refine T.step (W1.new 57 [.int .i64 0, .slice none 0 0, .slice none 0 0, .slice none 0 0, .slice none 0 0] (fun b => .pointer (some ⟨b, 0, none⟩)) (by kernel_rfl) (fun _ => by kernel_rfl) (fun b10 => ?_))
       refine T.step (W1.store 0 (cNPastAL e1 A2 c2 A3 c3 A4 c4 A5 c5) ((box b10 57 (cNPastAL e1 A2 c2 A3 c3 A4 c4 A5 c5)) :: (box b9 36 [.int .i64 p1.pfs, .int .i64 p1.obj, .int .i64 p1.off, .int .i64 0]) :: (box b8 24 [.int .i64 p0.root, .slice A1 p0.nodes.length c1]) :: (loopo l1 lr1 (.exit 0) [.ret] 0) :: (marko d1) :: (box b5 25 [.int .i64 0]) :: (box b4 39 [.int .i64 x1, .int .i64 x2, .int .i64 x3, .int .i64 x4, .int .i64 x5, .string x6]) :: (box b3 3 [.int .i64 p2]) :: (box b2 34 (cKPastAL p1)) :: G1) (by rfl) rfl (by kernel_rfl) (fun w' hw => exec_store (vs := (cNPastAL e1 A2 c2 A3 c3 A4 c4 A5 c5)) rfl rfl rfl rfl (by kernel_rfl) (one_of rfl) (by simp) rfl hw) ?_)
       refine T.nil ?_
       refine T.seq ?_
       refine T.seq ?_
       refine T.region ?_
       refine T.pure (.pointer (some ⟨b10, 1, none⟩)) (by kernel_rfl) (fun _ => by kernel_rfl) ?_
       refine T.look (.slice A2 e1.elems.length c2) (by kernel_rfl) (fun w' hh => exec_load1 rfl rfl (by kernel_rfl) (hh.cellBox (i := 0) (by rfl) 1)) ?_
       refine T.pure (.int .i64 (e1.elems.length : Int)) (by kernel_rfl) (fun _ => by kernel_rfl) ?_
       refine T.pure (.int .i64 0) (by kernel_rfl) (fun _ => by kernel_rfl) ?_
       refine T.nil ?_
       obtain ⟨q4, hz2, hS1⟩ := Option.bind_eq_some_iff.1 hS1
       refine T.mid (fun a w' => ∃ (z19 : Int) (z20 : Int) (z21 : Int) (z22 : Int) (z23 : Int) (z24 : ByteArray), q4 = Sum.inl (z19, z20, z21, z22, z23, z24) ∧ ∃ (V8 : View), View.le V5 V8 ∧ Fr 59 [(3, .func (.yield l1) #[] #[]), (4, .pointer (some ⟨b8, 0, none⟩)), (6, .pointer (some ⟨b9, 0, none⟩)), (9, .pointer (some ⟨b10, 0, none⟩))] a ∧ Hp w V8 ((box b10 57 (cNPastAL e1 A2 c2 A3 c3 A4 c4 A5 c5)) :: (box b9 36 [.int .i64 p1.pfs, .int .i64 p1.obj, .int .i64 p1.off, .int .i64 0]) :: (box b8 24 [.int .i64 p0.root, .slice A1 p0.nodes.length c1]) :: (loopo l1 lr1 (.exit 0) [.ret] 0) :: (marko d1) :: (box b5 25 [.int .i64 0]) :: (box b4 39 [.int .i64 z19, .int .i64 z20, .int .i64 z21, .int .i64 z22, .int .i64 z23, .string z24]) :: (box b3 3 [.int .i64 p2]) :: (box b2 34 (cKPastAL p1)) :: G1) w') ?_ ?_
       ·
        refine T.block ?_
        refine T.iter (fun s1 a w' => ∃ (x8 : Int) (x9 : Int) (x10 : Int) (x11 : Int) (x12 : Int) (x13 : ByteArray) (x14 : Int), s1 = (x8, x9, x10, x11, x12, x13, x14) ∧ ∃ (V7 : View), View.le V5 V7 ∧ Fr 59 [(3, .func (.yield l1) #[] #[]), (4, .pointer (some ⟨b8, 0, none⟩)), (6, .pointer (some ⟨b9, 0, none⟩)), (9, .pointer (some ⟨b10, 0, none⟩)), (20, .slice A2 e1.elems.length c2), (21, .int .i64 (e1.elems.length : Int)), (22, .int .i64 x14)] a ∧ Hp w V7 ((box b10 57 (cNPastAL e1 A2 c2 A3 c3 A4 c4 A5 c5)) :: (box b9 36 [.int .i64 p1.pfs, .int .i64 p1.obj, .int .i64 p1.off, .int .i64 0]) :: (box b8 24 [.int .i64 p0.root, .slice A1 p0.nodes.length c1]) :: (loopo l1 lr1 (.exit 0) [.ret] 0) :: (marko d1) :: (box b5 25 [.int .i64 0]) :: (box b4 39 [.int .i64 x8, .int .i64 x9, .int .i64 x10, .int .i64 x11, .int .i64 x12, .string x13]) :: (box b3 3 [.int .i64 p2]) :: (box b2 34 (cKPastAL p1)) :: G1) w') hz2 ?_ ?_
        ·
         exact fun a w' hf hh => Exists.intro x1 (Exists.intro x2 (Exists.intro x3 (Exists.intro x4 (Exists.intro x5 (Exists.intro x6 (Exists.intro 0 (And.intro rfl (Exists.intro V5 (And.intro (View.le_refl _) (And.intro ((((((((Fr.nil hf).pick hf 22 rfl).pick hf 21 rfl).pick hf 20 rfl).pick hf 9 rfl).pick hf 6 rfl).pick hf 4 rfl).pick hf 3 rfl) (hh.sub (List.Sublist.refl _))))))))))))
        ·
         rintro s1 y1 hY1 hr2 a w' ⟨x8, x9, x10, x11, x12, x13, x14, rfl, V7, hV7, hf, hh⟩
         refine (?_ : T 59 w V7 ((box b10 57 (cNPastAL e1 A2 c2 A3 c3 A4 c4 A5 c5)) :: (box b9 36 [.int .i64 p1.pfs, .int .i64 p1.obj, .int .i64 p1.off, .int .i64 0]) :: (box b8 24 [.int .i64 p0.root, .slice A1 p0.nodes.length c1]) :: (loopo l1 lr1 (.exit 0) [.ret] 0) :: (marko d1) :: (box b5 25 [.int .i64 0]) :: (box b4 39 [.int .i64 x8, .int .i64 x9, .int .i64 x10, .int .i64 x11, .int .i64 x12, .string x13]) :: (box b3 3 [.int .i64 p2]) :: (box b2 34 (cKPastAL p1)) :: G1) [(3, .func (.yield l1) #[] #[]), (4, .pointer (some ⟨b8, 0, none⟩)), (6, .pointer (some ⟨b9, 0, none⟩)), (9, .pointer (some ⟨b10, 0, none⟩)), (20, .slice A2 e1.elems.length c2), (21, .int .i64 (e1.elems.length : Int)), (22, .int .i64 x14)] _) a w' hf hh
         clear hf hh
         try dsimp only at hY1
         refine T.seq ?_
         refine T.region ?_
         refine T.pure (.bool (decide (x14 < (e1.elems.length : Int)))) (by kernel_rfl) (fun _ => by kernel_rfl) ?_
         refine T.nil ?_
         refine T.seq ?_
         refine T.cond (decide (x14 < (e1.elems.length : Int))) (by kernel_rfl) (by kernel_rfl) (fun hc4 => ?_) (fun hc4 => ?_)
         ·
          rw [hc4, cond_true] at hY1
          refine T.skip_code ?_
          refine T.seq ?_
          refine T.block ?_
          refine T.seq ?_
          refine T.region ?_
          obtain ⟨e2, hb4, hY1⟩ := Option.bind_eq_some_iff.1 hY1
          obtain ⟨hi4, hi5, hi6⟩ := idx_some hb4
          refine T.look (.pointer (some ((sadr A2).add (x14.toNat * 6)))) (by kernel_rfl) (fun w' hh => exec_indexAddr (e := 39) (s := 6) rfl rfl rfl (by kernel_rfl) (by kernel_rfl) hi4 hi5 ((SlOk.mono hs2 hV7).some_ hi6 (by decide))) ?_
          refine T.look (.agg #[.int .i64 e2.key.pfs, .int .i64 e2.key.obj, .int .i64 e2.key.off, .int .i64 e2.made, .int .i64 e2.gone, .string e2.val]) (by kernel_rfl) (fun w' hh => exec_loadN (cs := (cEPastAL e2)) rfl rfl (by kernel_rfl) (by kernel_rfl) (fun j u hj => (hh.cell_view (SlOk.cellF (E := eElem) (SlOk.mono hs2 hV7) hi6 j (fun _ _ _ h => h) hj)))) ?_
          refine T.step (W1.new 39 [.int .i64 0, .int .i64 0, .int .i64 0, .int .i64 0, .int .i64 0, .string (ByteArray.mk #[])] (fun b => .pointer (some ⟨b, 0, none⟩)) (by kernel_rfl) (fun _ => by kernel_rfl) (fun b11 => ?_))
          refine T.step (W1.store 0 (cEPastAL e2) ((box b11 39 (cEPastAL e2)) :: (box b10 57 (cNPastAL e1 A2 c2 A3 c3 A4 c4 A5 c5)) :: (box b9 36 [.int .i64 p1.pfs, .int .i64 p1.obj, .int .i64 p1.off, .int .i64 0]) :: (box b8 24 [.int .i64 p0.root, .slice A1 p0.nodes.length c1]) :: (loopo l1 lr1 (.exit 0) [.ret] 0) :: (marko d1) :: (box b5 25 [.int .i64 0]) :: (box b4 39 [.int .i64 x8, .int .i64 x9, .int .i64 x10, .int .i64 x11, .int .i64 x12, .string x13]) :: (box b3 3 [.int .i64 p2]) :: (box b2 34 (cKPastAL p1)) :: G1) (by rfl) rfl (by kernel_rfl) (fun w' hw => exec_store (vs := (cEPastAL e2)) rfl rfl rfl rfl (by kernel_rfl) (one_of rfl) (by simp) rfl hw) ?_)
          refine T.nil ?_
          obtain ⟨q5, hX3, hY1⟩ := Option.bind_eq_some_iff.1 hY1
          refine T.cut (fun a w' => ∃ (k3 : Nat) (z25 : Int) (z26 : Int) (z27 : Int) (z28 : Int) (z29 : Int) (z30 : ByteArray), q5 = (k3, z25, z26, z27, z28, z29, z30) ∧ ∃ (V9 : View), View.le V7 V9 ∧ Fr 59 [(3, .func (.yield l1) #[] #[]), (4, .pointer (some ⟨b8, 0, none⟩)), (6, .pointer (some ⟨b9, 0, none⟩)), (9, .pointer (some ⟨b10, 0, none⟩)), (20, .slice A2 e1.elems.length c2), (21, .int .i64 (e1.elems.length : Int)), (22, .int .i64 x14), (36, .bool (!(isz k3)))] a ∧ Hp w V9 ((box b10 57 (cNPastAL e1 A2 c2 A3 c3 A4 c4 A5 c5)) :: (box b9 36 [.int .i64 p1.pfs, .int .i64 p1.obj, .int .i64 p1.off, .int .i64 0]) :: (box b8 24 [.int .i64 p0.root, .slice A1 p0.nodes.length c1]) :: (loopo l1 lr1 (.exit 0) [.ret] k3) :: (marko d1) :: (box b5 25 [.int .i64 0]) :: (box b4 39 [.int .i64 z25, .int .i64 z26, .int .i64 z27, .int .i64 z28, .int .i64 z29, .string z30]) :: (box b3 3 [.int .i64 p2]) :: (box b2 34 (cKPastAL p1)) :: G1) w') ?_ ?_
          ·
           refine T.anyI (by kernel_rfl) ?_
           refine TI.all [0, 2] (by kernel_rfl) rfl ⟨?_, ?_, trivial⟩
           ·
            refine TI.br rfl (W1.toR (W1.look (.agg #[.int .i64 e2.key.pfs, .int .i64 e2.key.obj, .int .i64 e2.key.off, .int .i64 e2.made, .int .i64 e2.gone, .string e2.val]) (by kernel_rfl) (fun w' hh => exec_loadN (cs := (cEPastAL e2)) rfl rfl (by kernel_rfl) (by kernel_rfl) (fun j u hj => (hh.box_at (i := 0) (cs := (cEPastAL e2)) (by rfl) 0 j).trans (seg_at (n := 6) (by rfl) hj))) ?_))
            refine TI.all [1, 2] (by kernel_rfl) rfl ⟨?_, ?_, trivial⟩
            ·
             obtain ⟨r3, hb5, hX3⟩ := Option.bind_eq_some_iff.1 hX3
             refine TI.br rfl <| W1.toR (W1.call (vAg eSpot) r3 15 #[.agg #[.int .i64 e2.key.pfs, .int .i64 e2.key.obj, .int .i64 e2.key.off, .int .i64 e2.made, .int .i64 e2.gone, .string e2.val]] (by kernel_rfl) (fun _ => by kernel_rfl) (fun w' hh => elem_Spot_l e2 r3 hb5 w' ) ?_)
             intro u V10 hV10 hu
             obtain rfl := sureSpot _ _ _ hu
             refine TI.all [2] (by kernel_rfl) rfl ⟨?_, trivial⟩
             refine TI.br rfl (W1.toR (W1.look (.agg #[.int .i64 p1.pfs, .int .i64 p1.obj, .int .i64 p1.off, .int .i64 0]) (by kernel_rfl) (fun w' hh => exec_loadN (cs := [.int .i64 p1.pfs, .int .i64 p1.obj, .int .i64 p1.off, .int .i64 0]) rfl rfl (by kernel_rfl) (by kernel_rfl) (fun j u hj => (hh.box_at (i := 2) (cs := [.int .i64 p1.pfs, .int .i64 p1.obj, .int .i64 p1.off, .int .i64 0]) (by rfl) 0 j).trans (seg_at (n := 4) (by rfl) hj))) ?_))
             refine TI.all [3] (by kernel_rfl) rfl ⟨?_, trivial⟩
             obtain ⟨r4, hb6, hX3⟩ := Option.bind_eq_some_iff.1 hX3
             refine TI.br rfl <| W1.toR (W1.call (vSc eInt) r4 14 #[.agg #[.int .i64 r3.key.pfs, .int .i64 r3.key.obj, .int .i64 r3.key.off, .int .i64 r3.made], .agg #[.int .i64 p1.pfs, .int .i64 p1.obj, .int .i64 p1.off, .int .i64 0]] (by kernel_rfl) (fun _ => by kernel_rfl) (fun w' hh => key_CmpSpot_l r3 (DSpot.mk p1 0) r4 hb6 w' ) ?_)
             intro u V11 hV11 hu
             obtain rfl := sureInt _ _ _ hu
             refine TI.all [4] (by kernel_rfl) rfl ⟨?_, trivial⟩
             refine TI.br rfl (W1.toR (W1.look (.bool (decide ((0 : Int) ≤ r4))) (by kernel_rfl) (fun _ _ => by kernel_rfl) ?_))
             refine TI.all [5] (by kernel_rfl) rfl ⟨?_, trivial⟩
             refine TI.br rfl (W1.toR (W1.look (.bool (decide ((0 : Int) ≤ r4))) (by kernel_rfl) (fun _ _ => by kernel_rfl) ?_))
             cases hg1 : decide ((0 : Int) ≤ r4)
             ·
              rw [hg1, cond_false] at hX3
              refine TI.all [6, 7] (by kernel_rfl) rfl ⟨?_, ?_, trivial⟩
              ·
               refine TI.no rfl (by kernel_rfl) (by kernel_rfl) ?_
               refine TI.all [7] (by kernel_rfl) rfl ⟨?_, trivial⟩
               refine TI.no rfl (by kernel_rfl) (by kernel_rfl) ?_
               refine TI.all [8] (by kernel_rfl) rfl ⟨?_, trivial⟩
               refine TI.no rfl (by kernel_rfl) (by kernel_rfl) ?_
               refine TI.all [9] (by kernel_rfl) rfl ⟨?_, trivial⟩
               refine TI.no rfl (by kernel_rfl) (by kernel_rfl) ?_
               refine TI.all [10] (by kernel_rfl) rfl ⟨?_, trivial⟩
               refine TI.br rfl (W1.toR (W1.look (.bool false) (by kernel_rfl) (fun _ _ => by kernel_rfl) ?_))
               refine TI.done (by kernel_rfl) ?_
               cases hX3
               exact fun a w' hf hh => Exists.intro 0 (Exists.intro x8 (Exists.intro x9 (Exists.intro x10 (Exists.intro x11 (Exists.intro x12 (Exists.intro x13 (And.intro rfl (Exists.intro V11 (And.intro (View.le_trans hV10 hV11) (And.intro (((((((((Fr.nil hf).pick hf 36 rfl).pick hf 22 rfl).pick hf 21 rfl).pick hf 20 rfl).pick hf 9 rfl).pick hf 6 rfl).pick hf 4 rfl).pick hf 3 rfl) (hh.sub (.cons _ (List.Sublist.refl _)))))))))))))
              ·
               refine TI.no rfl (by kernel_rfl) (by kernel_rfl) ?_
               refine TI.all [6] (by kernel_rfl) rfl ⟨?_, trivial⟩
               refine TI.no rfl (by kernel_rfl) (by kernel_rfl) ?_
               refine TI.all [8] (by kernel_rfl) rfl ⟨?_, trivial⟩
               refine TI.no rfl (by kernel_rfl) (by kernel_rfl) ?_
               refine TI.all [9] (by kernel_rfl) rfl ⟨?_, trivial⟩
               refine TI.no rfl (by kernel_rfl) (by kernel_rfl) ?_
               refine TI.all [10] (by kernel_rfl) rfl ⟨?_, trivial⟩
               refine TI.br rfl (W1.toR (W1.look (.bool false) (by kernel_rfl) (fun _ _ => by kernel_rfl) ?_))
               refine TI.done (by kernel_rfl) ?_
               cases hX3
               exact fun a w' hf hh => Exists.intro 0 (Exists.intro x8 (Exists.intro x9 (Exists.intro x10 (Exists.intro x11 (Exists.intro x12 (Exists.intro x13 (And.intro rfl (Exists.intro V11 (And.intro (View.le_trans hV10 hV11) (And.intro (((((((((Fr.nil hf).pick hf 36 rfl).pick hf 22 rfl).pick hf 21 rfl).pick hf 20 rfl).pick hf 9 rfl).pick hf 6 rfl).pick hf 4 rfl).pick hf 3 rfl) (hh.sub (.cons _ (List.Sublist.refl _)))))))))))))
             ·
              rw [hg1, cond_true] at hX3
              refine TI.all [6, 7] (by kernel_rfl) rfl ⟨?_, ?_, trivial⟩
              ·
               refine TI.br rfl (W1.toR (W1.look (.func (.yield l1) #[] #[]) (by kernel_rfl) (fun _ _ => by kernel_rfl) ?_))
               refine TI.all [7] (by kernel_rfl) rfl ⟨?_, trivial⟩
               refine TI.br rfl (W1.toR (W1.look (.agg #[.int .i64 e2.key.pfs, .int .i64 e2.key.obj, .int .i64 e2.key.off, .int .i64 e2.made, .int .i64 e2.gone, .string e2.val]) (by kernel_rfl) (fun w' hh => exec_loadN (cs := (cEPastAL e2)) rfl rfl (by kernel_rfl) (by kernel_rfl) (fun j u hj => (hh.box_at (i := 0) (cs := (cEPastAL e2)) (by rfl) 0 j).trans (seg_at (n := 6) (by rfl) hj))) ?_))
               refine TI.all [8] (by kernel_rfl) rfl ⟨?_, trivial⟩
               obtain ⟨q6, hX4, hX3⟩ := Option.bind_eq_some_iff.1 hX3
               refine TI.br rfl (W1R.yield 4 l1 (fun v w' => ∃ (k4 : Nat) (z31 : Int) (z32 : Int) (z33 : Int) (z34 : Int) (z35 : Int) (z36 : ByteArray), q6 = (k4, z31, z32, z33, z34, z35, z36) ∧ ∃ (V12 : View), View.le V11 V12 ∧ v = .bool (isz k4) ∧ Hp w V12 ((box b11 39 (cEPastAL e2)) :: (box b10 57 (cNPastAL e1 A2 c2 A3 c3 A4 c4 A5 c5)) :: (box b9 36 [.int .i64 p1.pfs, .int .i64 p1.obj, .int .i64 p1.off, .int .i64 0]) :: (box b8 24 [.int .i64 p0.root, .slice A1 p0.nodes.length c1]) :: (loopo l1 lr1 (.exit 0) [.ret] k4) :: (marko d1) :: (box b5 25 [.int .i64 0]) :: (box b4 39 [.int .i64 z31, .int .i64 z32, .int .i64 z33, .int .i64 z34, .int .i64 z35, .string z36]) :: (box b3 3 [.int .i64 p2]) :: (box b2 34 (cKPastAL p1)) :: G1) w') (by rfl) hl1 hl2 hl3 hl4 (by rfl) (by kernel_rfl) rfl (by kernel_rfl) rfl ?_ ?_)
               ·
                refine T.region ?_
                refine T.step (W1.new 39 [.int .i64 0, .int .i64 0, .int .i64 0, .int .i64 0, .int .i64 0, .string (ByteArray.mk #[])] (fun b => .pointer (some ⟨b, 0, none⟩)) (by kernel_rfl) (fun _ => by kernel_rfl) (fun b12 => ?_))
                refine T.step (W1.store 0 (cEPastAL e2) ((box b12 39 (cEPastAL e2)) :: (box b11 39 (cEPastAL e2)) :: (box b10 57 (cNPastAL e1 A2 c2 A3 c3 A4 c4 A5 c5)) :: (box b9 36 [.int .i64 p1.pfs, .int .i64 p1.obj, .int .i64 p1.off, .int .i64 0]) :: (box b8 24 [.int .i64 p0.root, .slice A1 p0.nodes.length c1]) :: (loopo l1 lr1 (.exit 0) [.ret] 0) :: (marko d1) :: (box b5 25 [.int .i64 0]) :: (box b4 39 [.int .i64 x8, .int .i64 x9, .int .i64 x10, .int .i64 x11, .int .i64 x12, .string x13]) :: (box b3 3 [.int .i64 p2]) :: (box b2 34 (cKPastAL p1)) :: G1) (by rfl) rfl (by kernel_rfl) (fun w' hw => exec_store (vs := (cEPastAL e2)) rfl rfl rfl rfl (by kernel_rfl) (one_of rfl) (by simp) rfl hw) ?_)
                refine T.nil ?_
                refine T.unthenN ?_
                refine T.begin 5 ((box b12 39 (cEPastAL e2)) :: (box b11 39 (cEPastAL e2)) :: (box b10 57 (cNPastAL e1 A2 c2 A3 c3 A4 c4 A5 c5)) :: (box b9 36 [.int .i64 p1.pfs, .int .i64 p1.obj, .int .i64 p1.off, .int .i64 0]) :: (box b8 24 [.int .i64 p0.root, .slice A1 p0.nodes.length c1]) :: (busyo l1 lr1) :: (marko d1) :: (box b5 25 [.int .i64 0]) :: (box b4 39 [.int .i64 x8, .int .i64 x9, .int .i64 x10, .int .i64 x11, .int .i64 x12, .string x13]) :: (box b3 3 [.int .i64 p2]) :: (box b2 34 (cKPastAL p1)) :: G1) (by rfl) rfl ?_
                refine T.block ?_
                refine T.seq ?_
                refine T.seq ?_
                refine T.region ?_
                refine T.pure (.pointer (some ⟨b12, 0, none⟩)) (by kernel_rfl) (fun _ => by kernel_rfl) ?_
                refine T.look (.agg #[.int .i64 e2.key.pfs, .int .i64 e2.key.obj, .int .i64 e2.key.off]) (by kernel_rfl) (fun w' hh => exec_loadN (cs := (cKPastAL e2.key)) rfl rfl (by kernel_rfl) (by kernel_rfl) (fun j u hj => (hh.box_at (i := 0) (cs := (cEPastAL e2)) (by rfl) 0 j).trans (seg_at (n := 3) (by rfl) hj))) ?_
                refine T.look (.agg #[.int .i64 p1.pfs, .int .i64 p1.obj, .int .i64 p1.off]) (by kernel_rfl) (fun w' hh => exec_loadN (cs := (cKPastAL p1)) rfl rfl (by kernel_rfl) (by kernel_rfl) (fun j u hj => (hh.box_at (i := 10) (cs := (cKPastAL p1)) (by rfl) 0 j).trans (seg_at (n := 3) (by rfl) hj))) ?_
                refine T.look (.bool (!(e2.key == p1))) (by kernel_rfl) (fun w' hh => exec_neq_DKey e2.key p1 w' rfl rfl rfl) ?_
                refine T.nil ?_
                refine T.cond (!(e2.key == p1)) (by kernel_rfl) (by kernel_rfl) (fun hc5 => ?_) (fun hc5 => ?_)
                ·
                 rw [hc5, cond_true] at hX4
                 refine T.exit ?_
                 cases hX4
                 repeat first | refine T.unthenX ?_ | refine T.unblockX rfl ?_
                 exact T.roundExit (.exit 0) [.ret] 0 5 ((box b12 39 (cEPastAL e2)) :: (box b11 39 (cEPastAL e2)) :: (box b10 57 (cNPastAL e1 A2 c2 A3 c3 A4 c4 A5 c5)) :: (box b9 36 [.int .i64 p1.pfs, .int .i64 p1.obj, .int .i64 p1.off, .int .i64 0]) :: (box b8 24 [.int .i64 p0.root, .slice A1 p0.nodes.length c1]) :: (loopo l1 lr1 (.exit 0) [.ret] (0 + 1)) :: (marko d1) :: (box b5 25 [.int .i64 0]) :: (box b4 39 [.int .i64 x8, .int .i64 x9, .int .i64 x10, .int .i64 x11, .int .i64 x12, .string x13]) :: (box b3 3 [.int .i64 p2]) :: (box b2 34 (cKPastAL p1)) :: G1) (by rfl) rfl rfl (fun w' hh => ⟨_, rfl, Exists.intro (0 + 1) (Exists.intro x8 (Exists.intro x9 (Exists.intro x10 (Exists.intro x11 (Exists.intro x12 (Exists.intro x13 (And.intro rfl (Exists.intro V11 (And.intro (View.le_refl _) (And.intro rfl (hh.sub (.cons _ (List.Sublist.refl _)))))))))))))⟩)
                ·
                 rw [hc5, cond_false] at hX4
                 refine T.skip_code ?_
                 refine T.seq ?_
                 refine T.region ?_
                 refine T.look (.agg #[.int .i64 e2.key.pfs, .int .i64 e2.key.obj, .int .i64 e2.key.off, .int .i64 e2.made, .int .i64 e2.gone, .string e2.val]) (by kernel_rfl) (fun w' hh => exec_loadN (cs := (cEPastAL e2)) rfl rfl (by kernel_rfl) (by kernel_rfl) (fun j u hj => (hh.box_at (i := 0) (cs := (cEPastAL e2)) (by rfl) 0 j).trans (seg_at (n := 6) (by rfl) hj))) ?_
                 refine T.look (.int .i64 p2) (by kernel_rfl) (fun w' hh => exec_load1 rfl rfl (by kernel_rfl) (hh.cellBox (i := 9) (by rfl) 0)) ?_
                 obtain ⟨r5, hb7, hX4⟩ := Option.bind_eq_some_iff.1 hX4
                 refine T.step (W1.call (vSc eBool) r5 51 #[.agg #[.int .i64 e2.key.pfs, .int .i64 e2.key.obj, .int .i64 e2.key.off, .int .i64 e2.made, .int .i64 e2.gone, .string e2.val], .int .i64 p2] (by kernel_rfl) (fun _ => by kernel_rfl) (fun w' hh => elem_Live_l e2 p2 r5 hb7 w' ) ?_)
                 intro u V13 hV13 hu
                 obtain rfl := sureBool _ _ _ hu
                 refine T.nil ?_
                 refine T.cond r5 (by kernel_rfl) (by kernel_rfl) (fun hc6 => ?_) (fun hc6 => ?_)
                 ·
                  rw [hc6, cond_true] at hX4
                  refine T.seq ?_
                  refine T.region ?_
                  refine T.look (.agg #[.int .i64 e2.key.pfs, .int .i64 e2.key.obj, .int .i64 e2.key.off, .int .i64 e2.made, .int .i64 e2.gone, .string e2.val]) (by kernel_rfl) (fun w' hh => exec_loadN (cs := (cEPastAL e2)) rfl rfl (by kernel_rfl) (by kernel_rfl) (fun j u hj => (hh.box_at (i := 0) (cs := (cEPastAL e2)) (by rfl) 0 j).trans (seg_at (n := 6) (by rfl) hj))) ?_
                  refine T.step (W1.store 8 (cEPastAL e2) ((box b12 39 (cEPastAL e2)) :: (box b11 39 (cEPastAL e2)) :: (box b10 57 (cNPastAL e1 A2 c2 A3 c3 A4 c4 A5 c5)) :: (box b9 36 [.int .i64 p1.pfs, .int .i64 p1.obj, .int .i64 p1.off, .int .i64 0]) :: (box b8 24 [.int .i64 p0.root, .slice A1 p0.nodes.length c1]) :: (busyo l1 lr1) :: (marko d1) :: (box b5 25 [.int .i64 0]) :: (box b4 39 (cEPastAL e2)) :: (box b3 3 [.int .i64 p2]) :: (box b2 34 (cKPastAL p1)) :: G1) (by rfl) rfl (by kernel_rfl) (fun w' hw => exec_store (vs := (cEPastAL e2)) rfl rfl rfl rfl (by kernel_rfl) (one_of rfl) (by simp) rfl hw) ?_)
                  refine T.step (W1.store 7 [.int .i64 0] ((box b12 39 (cEPastAL e2)) :: (box b11 39 (cEPastAL e2)) :: (box b10 57 (cNPastAL e1 A2 c2 A3 c3 A4 c4 A5 c5)) :: (box b9 36 [.int .i64 p1.pfs, .int .i64 p1.obj, .int .i64 p1.off, .int .i64 0]) :: (box b8 24 [.int .i64 p0.root, .slice A1 p0.nodes.length c1]) :: (busyo l1 lr1) :: (marko d1) :: (box b5 25 [.int .i64 0]) :: (box b4 39 (cEPastAL e2)) :: (box b3 3 [.int .i64 p2]) :: (box b2 34 (cKPastAL p1)) :: G1) (by rfl) rfl (by kernel_rfl) (fun w' hw => exec_store (vs := [.int .i64 0]) rfl rfl rfl rfl (by kernel_rfl) (one_of rfl) (by simp) rfl hw) ?_)
                  refine T.nil ?_
                  cases hX4
                  refine T.ret rfl ?_
                  repeat first | refine T.unthenR ?_ | refine T.unblockR ?_
                  exact T.roundRet (.exit 0) [.ret] 1 5 ((box b12 39 (cEPastAL e2)) :: (box b11 39 (cEPastAL e2)) :: (box b10 57 (cNPastAL e1 A2 c2 A3 c3 A4 c4 A5 c5)) :: (box b9 36 [.int .i64 p1.pfs, .int .i64 p1.obj, .int .i64 p1.off, .int .i64 0]) :: (box b8 24 [.int .i64 p0.root, .slice A1 p0.nodes.length c1]) :: (loopo l1 lr1 (.exit 0) [.ret] (1 + 1)) :: (marko d1) :: (box b5 25 [.int .i64 0]) :: (box b4 39 (cEPastAL e2)) :: (box b3 3 [.int .i64 p2]) :: (box b2 34 (cKPastAL p1)) :: G1) (by rfl) rfl rfl (fun w' hh => ⟨_, rfl, Exists.intro (1 + 1) (Exists.intro e2.key.pfs (Exists.intro e2.key.obj (Exists.intro e2.key.off (Exists.intro e2.made (Exists.intro e2.gone (Exists.intro e2.val (And.intro rfl (Exists.intro V13 (And.intro hV13 (And.intro rfl (hh.sub (.cons _ (List.Sublist.refl _)))))))))))))⟩)
                 ·
                  rw [hc6, cond_false] at hX4
                  refine T.skip_code ?_
                  cases hX4
                  repeat first | refine T.unthenN ?_ | refine T.unblockN ?_
                  exact T.roundEnd (.exit 0) [.ret] 5 ((box b12 39 (cEPastAL e2)) :: (box b11 39 (cEPastAL e2)) :: (box b10 57 (cNPastAL e1 A2 c2 A3 c3 A4 c4 A5 c5)) :: (box b9 36 [.int .i64 p1.pfs, .int .i64 p1.obj, .int .i64 p1.off, .int .i64 0]) :: (box b8 24 [.int .i64 p0.root, .slice A1 p0.nodes.length c1]) :: (loopo l1 lr1 (.exit 0) [.ret] 0) :: (marko d1) :: (box b5 25 [.int .i64 0]) :: (box b4 39 [.int .i64 x8, .int .i64 x9, .int .i64 x10, .int .i64 x11, .int .i64 x12, .string x13]) :: (box b3 3 [.int .i64 p2]) :: (box b2 34 (cKPastAL p1)) :: G1) (by rfl) rfl (fun w' hh => ⟨_, rfl, Exists.intro 0 (Exists.intro x8 (Exists.intro x9 (Exists.intro x10 (Exists.intro x11 (Exists.intro x12 (Exists.intro x13 (And.intro rfl (Exists.intro V13 (And.intro hV13 (And.intro rfl (hh.sub (.cons _ (List.Sublist.refl _)))))))))))))⟩)
               ·
                rintro v w' ⟨k4, z31, z32, z33, z34, z35, z36, rfl, V12, hV12, rfl, hh⟩
                try dsimp only at hX3
                refine ⟨V12, ((box b11 39 (cEPastAL e2)) :: (box b10 57 (cNPastAL e1 A2 c2 A3 c3 A4 c4 A5 c5)) :: (box b9 36 [.int .i64 p1.pfs, .int .i64 p1.obj, .int .i64 p1.off, .int .i64 0]) :: (box b8 24 [.int .i64 p0.root, .slice A1 p0.nodes.length c1]) :: (loopo l1 lr1 (.exit 0) [.ret] k4) :: (marko d1) :: (box b5 25 [.int .i64 0]) :: (box b4 39 [.int .i64 z31, .int .i64 z32, .int .i64 z33, .int .i64 z34, .int .i64 z35, .string z36]) :: (box b3 3 [.int .i64 p2]) :: (box b2 34 (cKPastAL p1)) :: G1), hh, ?_⟩
                clear hh
                cases k4 with
                | zero =>
                 rw [natCase_zero] at hX3
                 refine TI.all [9] (by kernel_rfl) rfl ⟨?_, trivial⟩
                 refine TI.br rfl (W1.toR (W1.look (.bool false) (by kernel_rfl) (fun _ _ => by kernel_rfl) ?_))
                 refine TI.all [10] (by kernel_rfl) rfl ⟨?_, trivial⟩
                 refine TI.br rfl (W1.toR (W1.look (.bool false) (by kernel_rfl) (fun _ _ => by kernel_rfl) ?_))
                 refine TI.done (by kernel_rfl) ?_
                 cases hX3
                 exact fun a w' hf hh => Exists.intro 0 (Exists.intro z31 (Exists.intro z32 (Exists.intro z33 (Exists.intro z34 (Exists.intro z35 (Exists.intro z36 (And.intro rfl (Exists.intro V12 (And.intro (View.le_trans (View.le_trans hV10 hV11) hV12) (And.intro (((((((((Fr.nil hf).pick hf 36 rfl).pick hf 22 rfl).pick hf 21 rfl).pick hf 20 rfl).pick hf 9 rfl).pick hf 6 rfl).pick hf 4 rfl).pick hf 3 rfl) (hh.sub (.cons _ (List.Sublist.refl _)))))))))))))
                | succ k5 =>
                 rw [natCase_succ] at hX3
                 refine TI.all [9] (by kernel_rfl) rfl ⟨?_, trivial⟩
                 refine TI.br rfl (W1.toR (W1.look (.bool true) (by kernel_rfl) (fun _ _ => by kernel_rfl) ?_))
                 refine TI.all [10] (by kernel_rfl) rfl ⟨?_, trivial⟩
                 refine TI.br rfl (W1.toR (W1.look (.bool true) (by kernel_rfl) (fun _ _ => by kernel_rfl) ?_))
                 refine TI.done (by kernel_rfl) ?_
                 cases hX3
                 exact fun a w' hf hh => Exists.intro (k5 + 1) (Exists.intro z31 (Exists.intro z32 (Exists.intro z33 (Exists.intro z34 (Exists.intro z35 (Exists.intro z36 (And.intro rfl (Exists.intro V12 (And.intro (View.le_trans (View.le_trans hV10 hV11) hV12) (And.intro (((((((((Fr.nil hf).pick hf 36 rfl).pick hf 22 rfl).pick hf 21 rfl).pick hf 20 rfl).pick hf 9 rfl).pick hf 6 rfl).pick hf 4 rfl).pick hf 3 rfl) (hh.sub (.cons _ (List.Sublist.refl _)))))))))))))
              ·
               refine TI.br rfl (W1.toR (W1.look (.agg #[.int .i64 e2.key.pfs, .int .i64 e2.key.obj, .int .i64 e2.key.off, .int .i64 e2.made, .int .i64 e2.gone, .string e2.val]) (by kernel_rfl) (fun w' hh => exec_loadN (cs := (cEPastAL e2)) rfl rfl (by kernel_rfl) (by kernel_rfl) (fun j u hj => (hh.box_at (i := 0) (cs := (cEPastAL e2)) (by rfl) 0 j).trans (seg_at (n := 6) (by rfl) hj))) ?_))
               refine TI.all [6] (by kernel_rfl) rfl ⟨?_, trivial⟩
               refine TI.br rfl (W1.toR (W1.look (.func (.yield l1) #[] #[]) (by kernel_rfl) (fun _ _ => by kernel_rfl) ?_))
               refine TI.all [8] (by kernel_rfl) rfl ⟨?_, trivial⟩
               obtain ⟨q6, hX4, hX3⟩ := Option.bind_eq_some_iff.1 hX3
               refine TI.br rfl (W1R.yield 4 l1 (fun v w' => ∃ (k4 : Nat) (z31 : Int) (z32 : Int) (z33 : Int) (z34 : Int) (z35 : Int) (z36 : ByteArray), q6 = (k4, z31, z32, z33, z34, z35, z36) ∧ ∃ (V12 : View), View.le V11 V12 ∧ v = .bool (isz k4) ∧ Hp w V12 ((box b11 39 (cEPastAL e2)) :: (box b10 57 (cNPastAL e1 A2 c2 A3 c3 A4 c4 A5 c5)) :: (box b9 36 [.int .i64 p1.pfs, .int .i64 p1.obj, .int .i64 p1.off, .int .i64 0]) :: (box b8 24 [.int .i64 p0.root, .slice A1 p0.nodes.length c1]) :: (loopo l1 lr1 (.exit 0) [.ret] k4) :: (marko d1) :: (box b5 25 [.int .i64 0]) :: (box b4 39 [.int .i64 z31, .int .i64 z32, .int .i64 z33, .int .i64 z34, .int .i64 z35, .string z36]) :: (box b3 3 [.int .i64 p2]) :: (box b2 34 (cKPastAL p1)) :: G1) w') (by rfl) hl1 hl2 hl3 hl4 (by rfl) (by kernel_rfl) rfl (by kernel_rfl) rfl ?_ ?_)
               ·
                refine T.region ?_
                refine T.step (W1.new 39 [.int .i64 0, .int .i64 0, .int .i64 0, .int .i64 0, .int .i64 0, .string (ByteArray.mk #[])] (fun b => .pointer (some ⟨b, 0, none⟩)) (by kernel_rfl) (fun _ => by kernel_rfl) (fun b12 => ?_))
                refine T.step (W1.store 0 (cEPastAL e2) ((box b12 39 (cEPastAL e2)) :: (box b11 39 (cEPastAL e2)) :: (box b10 57 (cNPastAL e1 A2 c2 A3 c3 A4 c4 A5 c5)) :: (box b9 36 [.int .i64 p1.pfs, .int .i64 p1.obj, .int .i64 p1.off, .int .i64 0]) :: (box b8 24 [.int .i64 p0.root, .slice A1 p0.nodes.length c1]) :: (loopo l1 lr1 (.exit 0) [.ret] 0) :: (marko d1) :: (box b5 25 [.int .i64 0]) :: (box b4 39 [.int .i64 x8, .int .i64 x9, .int .i64 x10, .int .i64 x11, .int .i64 x12, .string x13]) :: (box b3 3 [.int .i64 p2]) :: (box b2 34 (cKPastAL p1)) :: G1) (by rfl) rfl (by kernel_rfl) (fun w' hw => exec_store (vs := (cEPastAL e2)) rfl rfl rfl rfl (by kernel_rfl) (one_of rfl) (by simp) rfl hw) ?_)
                refine T.nil ?_
                refine T.unthenN ?_
                refine T.begin 5 ((box b12 39 (cEPastAL e2)) :: (box b11 39 (cEPastAL e2)) :: (box b10 57 (cNPastAL e1 A2 c2 A3 c3 A4 c4 A5 c5)) :: (box b9 36 [.int .i64 p1.pfs, .int .i64 p1.obj, .int .i64 p1.off, .int .i64 0]) :: (box b8 24 [.int .i64 p0.root, .slice A1 p0.nodes.length c1]) :: (busyo l1 lr1) :: (marko d1) :: (box b5 25 [.int .i64 0]) :: (box b4 39 [.int .i64 x8, .int .i64 x9, .int .i64 x10, .int .i64 x11, .int .i64 x12, .string x13]) :: (box b3 3 [.int .i64 p2]) :: (box b2 34 (cKPastAL p1)) :: G1) (by rfl) rfl ?_
                refine T.block ?_
                refine T.seq ?_
                refine T.seq ?_
                refine T.region ?_
                refine T.pure (.pointer (some ⟨b12, 0, none⟩)) (by kernel_rfl) (fun _ => by kernel_rfl) ?_
                refine T.look (.agg #[.int .i64 e2.key.pfs, .int .i64 e2.key.obj, .int .i64 e2.key.off]) (by kernel_rfl) (fun w' hh => exec_loadN (cs := (cKPastAL e2.key)) rfl rfl (by kernel_rfl) (by kernel_rfl) (fun j u hj => (hh.box_at (i := 0) (cs := (cEPastAL e2)) (by rfl) 0 j).trans (seg_at (n := 3) (by rfl) hj))) ?_
                refine T.look (.agg #[.int .i64 p1.pfs, .int .i64 p1.obj, .int .i64 p1.off]) (by kernel_rfl) (fun w' hh => exec_loadN (cs := (cKPastAL p1)) rfl rfl (by kernel_rfl) (by kernel_rfl) (fun j u hj => (hh.box_at (i := 10) (cs := (cKPastAL p1)) (by rfl) 0 j).trans (seg_at (n := 3) (by rfl) hj))) ?_
                refine T.look (.bool (!(e2.key == p1))) (by kernel_rfl) (fun w' hh => exec_neq_DKey e2.key p1 w' rfl rfl rfl) ?_
                refine T.nil ?_
                refine T.cond (!(e2.key == p1)) (by kernel_rfl) (by kernel_rfl) (fun hc5 => ?_) (fun hc5 => ?_)
                ·
                 rw [hc5, cond_true] at hX4
                 refine T.exit ?_
                 cases hX4
                 repeat first | refine T.unthenX ?_ | refine T.unblockX rfl ?_
                 exact T.roundExit (.exit 0) [.ret] 0 5 ((box b12 39 (cEPastAL e2)) :: (box b11 39 (cEPastAL e2)) :: (box b10 57 (cNPastAL e1 A2 c2 A3 c3 A4 c4 A5 c5)) :: (box b9 36 [.int .i64 p1.pfs, .int .i64 p1.obj, .int .i64 p1.off, .int .i64 0]) :: (box b8 24 [.int .i64 p0.root, .slice A1 p0.nodes.length c1]) :: (loopo l1 lr1 (.exit 0) [.ret] (0 + 1)) :: (marko d1) :: (box b5 25 [.int .i64 0]) :: (box b4 39 [.int .i64 x8, .int .i64 x9, .int .i64 x10, .int .i64 x11, .int .i64 x12, .string x13]) :: (box b3 3 [.int .i64 p2]) :: (box b2 34 (cKPastAL p1)) :: G1) (by rfl) rfl rfl (fun w' hh => ⟨_, rfl, Exists.intro (0 + 1) (Exists.intro x8 (Exists.intro x9 (Exists.intro x10 (Exists.intro x11 (Exists.intro x12 (Exists.intro x13 (And.intro rfl (Exists.intro V11 (And.intro (View.le_refl _) (And.intro rfl (hh.sub (.cons _ (List.Sublist.refl _)))))))))))))⟩)
                ·
                 rw [hc5, cond_false] at hX4
                 refine T.skip_code ?_
                 refine T.seq ?_
                 refine T.region ?_
                 refine T.look (.agg #[.int .i64 e2.key.pfs, .int .i64 e2.key.obj, .int .i64 e2.key.off, .int .i64 e2.made, .int .i64 e2.gone, .string e2.val]) (by kernel_rfl) (fun w' hh => exec_loadN (cs := (cEPastAL e2)) rfl rfl (by kernel_rfl) (by kernel_rfl) (fun j u hj => (hh.box_at (i := 0) (cs := (cEPastAL e2)) (by rfl) 0 j).trans (seg_at (n := 6) (by rfl) hj))) ?_
                 refine T.look (.int .i64 p2) (by kernel_rfl) (fun w' hh => exec_load1 rfl rfl (by kernel_rfl) (hh.cellBox (i := 9) (by rfl) 0)) ?_
                 obtain ⟨r5, hb7, hX4⟩ := Option.bind_eq_some_iff.1 hX4
                 refine T.step (W1.call (vSc eBool) r5 51 #[.agg #[.int .i64 e2.key.pfs, .int .i64 e2.key.obj, .int .i64 e2.key.off, .int .i64 e2.made, .int .i64 e2.gone, .string e2.val], .int .i64 p2] (by kernel_rfl) (fun _ => by kernel_rfl) (fun w' hh => elem_Live_l e2 p2 r5 hb7 w' ) ?_)
                 intro u V13 hV13 hu
                 obtain rfl := sureBool _ _ _ hu
                 refine T.nil ?_
                 refine T.cond r5 (by kernel_rfl) (by kernel_rfl) (fun hc6 => ?_) (fun hc6 => ?_)
                 ·
                  rw [hc6, cond_true] at hX4
                  refine T.seq ?_
                  refine T.region ?_
                  refine T.look (.agg #[.int .i64 e2.key.pfs, .int .i64 e2.key.obj, .int .i64 e2.key.off, .int .i64 e2.made, .int .i64 e2.gone, .string e2.val]) (by kernel_rfl) (fun w' hh => exec_loadN (cs := (cEPastAL e2)) rfl rfl (by kernel_rfl) (by kernel_rfl) (fun j u hj => (hh.box_at (i := 0) (cs := (cEPastAL e2)) (by rfl) 0 j).trans (seg_at (n := 6) (by rfl) hj))) ?_
                  refine T.step (W1.store 8 (cEPastAL e2) ((box b12 39 (cEPastAL e2)) :: (box b11 39 (cEPastAL e2)) :: (box b10 57 (cNPastAL e1 A2 c2 A3 c3 A4 c4 A5 c5)) :: (box b9 36 [.int .i64 p1.pfs, .int .i64 p1.obj, .int .i64 p1.off, .int .i64 0]) :: (box b8 24 [.int .i64 p0.root, .slice A1 p0.nodes.length c1]) :: (busyo l1 lr1) :: (marko d1) :: (box b5 25 [.int .i64 0]) :: (box b4 39 (cEPastAL e2)) :: (box b3 3 [.int .i64 p2]) :: (box b2 34 (cKPastAL p1)) :: G1) (by rfl) rfl (by kernel_rfl) (fun w' hw => exec_store (vs := (cEPastAL e2)) rfl rfl rfl rfl (by kernel_rfl) (one_of rfl) (by simp) rfl hw) ?_)
                  refine T.step (W1.store 7 [.int .i64 0] ((box b12 39 (cEPastAL e2)) :: (box b11 39 (cEPastAL e2)) :: (box b10 57 (cNPastAL e1 A2 c2 A3 c3 A4 c4 A5 c5)) :: (box b9 36 [.int .i64 p1.pfs, .int .i64 p1.obj, .int .i64 p1.off, .int .i64 0]) :: (box b8 24 [.int .i64 p0.root, .slice A1 p0.nodes.length c1]) :: (busyo l1 lr1) :: (marko d1) :: (box b5 25 [.int .i64 0]) :: (box b4 39 (cEPastAL e2)) :: (box b3 3 [.int .i64 p2]) :: (box b2 34 (cKPastAL p1)) :: G1) (by rfl) rfl (by kernel_rfl) (fun w' hw => exec_store (vs := [.int .i64 0]) rfl rfl rfl rfl (by kernel_rfl) (one_of rfl) (by simp) rfl hw) ?_)
                  refine T.nil ?_
                  cases hX4
                  refine T.ret rfl ?_
                  repeat first | refine T.unthenR ?_ | refine T.unblockR ?_
                  exact T.roundRet (.exit 0) [.ret] 1 5 ((box b12 39 (cEPastAL e2)) :: (box b11 39 (cEPastAL e2)) :: (box b10 57 (cNPastAL e1 A2 c2 A3 c3 A4 c4 A5 c5)) :: (box b9 36 [.int .i64 p1.pfs, .int .i64 p1.obj, .int .i64 p1.off, .int .i64 0]) :: (box b8 24 [.int .i64 p0.root, .slice A1 p0.nodes.length c1]) :: (loopo l1 lr1 (.exit 0) [.ret] (1 + 1)) :: (marko d1) :: (box b5 25 [.int .i64 0]) :: (box b4 39 (cEPastAL e2)) :: (box b3 3 [.int .i64 p2]) :: (box b2 34 (cKPastAL p1)) :: G1) (by rfl) rfl rfl (fun w' hh => ⟨_, rfl, Exists.intro (1 + 1) (Exists.intro e2.key.pfs (Exists.intro e2.key.obj (Exists.intro e2.key.off (Exists.intro e2.made (Exists.intro e2.gone (Exists.intro e2.val (And.intro rfl (Exists.intro V13 (And.intro hV13 (And.intro rfl (hh.sub (.cons _ (List.Sublist.refl _)))))))))))))⟩)
                 ·
                  rw [hc6, cond_false] at hX4
                  refine T.skip_code ?_
                  cases hX4
                  repeat first | refine T.unthenN ?_ | refine T.unblockN ?_
                  exact T.roundEnd (.exit 0) [.ret] 5 ((box b12 39 (cEPastAL e2)) :: (box b11 39 (cEPastAL e2)) :: (box b10 57 (cNPastAL e1 A2 c2 A3 c3 A4 c4 A5 c5)) :: (box b9 36 [.int .i64 p1.pfs, .int .i64 p1.obj, .int .i64 p1.off, .int .i64 0]) :: (box b8 24 [.int .i64 p0.root, .slice A1 p0.nodes.length c1]) :: (loopo l1 lr1 (.exit 0) [.ret] 0) :: (marko d1) :: (box b5 25 [.int .i64 0]) :: (box b4 39 [.int .i64 x8, .int .i64 x9, .int .i64 x10, .int .i64 x11, .int .i64 x12, .string x13]) :: (box b3 3 [.int .i64 p2]) :: (box b2 34 (cKPastAL p1)) :: G1) (by rfl) rfl (fun w' hh => ⟨_, rfl, Exists.intro 0 (Exists.intro x8 (Exists.intro x9 (Exists.intro x10 (Exists.intro x11 (Exists.intro x12 (Exists.intro x13 (And.intro rfl (Exists.intro V13 (And.intro hV13 (And.intro rfl (hh.sub (.cons _ (List.Sublist.refl _)))))))))))))⟩)
               ·
                rintro v w' ⟨k4, z31, z32, z33, z34, z35, z36, rfl, V12, hV12, rfl, hh⟩
                try dsimp only at hX3
                refine ⟨V12, ((box b11 39 (cEPastAL e2)) :: (box b10 57 (cNPastAL e1 A2 c2 A3 c3 A4 c4 A5 c5)) :: (box b9 36 [.int .i64 p1.pfs, .int .i64 p1.obj, .int .i64 p1.off, .int .i64 0]) :: (box b8 24 [.int .i64 p0.root, .slice A1 p0.nodes.length c1]) :: (loopo l1 lr1 (.exit 0) [.ret] k4) :: (marko d1) :: (box b5 25 [.int .i64 0]) :: (box b4 39 [.int .i64 z31, .int .i64 z32, .int .i64 z33, .int .i64 z34, .int .i64 z35, .string z36]) :: (box b3 3 [.int .i64 p2]) :: (box b2 34 (cKPastAL p1)) :: G1), hh, ?_⟩
                clear hh
                cases k4 with
                | zero =>
                 rw [natCase_zero] at hX3
                 refine TI.all [9] (by kernel_rfl) rfl ⟨?_, trivial⟩
                 refine TI.br rfl (W1.toR (W1.look (.bool false) (by kernel_rfl) (fun _ _ => by kernel_rfl) ?_))
                 refine TI.all [10] (by kernel_rfl) rfl ⟨?_, trivial⟩
                 refine TI.br rfl (W1.toR (W1.look (.bool false) (by kernel_rfl) (fun _ _ => by kernel_rfl) ?_))
                 refine TI.done (by kernel_rfl) ?_
                 cases hX3
                 exact fun a w' hf hh => Exists.intro 0 (Exists.intro z31 (Exists.intro z32 (Exists.intro z33 (Exists.intro z34 (Exists.intro z35 (Exists.intro z36 (And.intro rfl (Exists.intro V12 (And.intro (View.le_trans (View.le_trans hV10 hV11) hV12) (And.intro (((((((((Fr.nil hf).pick hf 36 rfl).pick hf 22 rfl).pick hf 21 rfl).pick hf 20 rfl).pick hf 9 rfl).pick hf 6 rfl).pick hf 4 rfl).pick hf 3 rfl) (hh.sub (.cons _ (List.Sublist.refl _)))))))))))))
                | succ k5 =>
                 rw [natCase_succ] at hX3
                 refine TI.all [9] (by kernel_rfl) rfl ⟨?_, trivial⟩
                 refine TI.br rfl (W1.toR (W1.look (.bool true) (by kernel_rfl) (fun _ _ => by kernel_rfl) ?_))
                 refine TI.all [10] (by kernel_rfl) rfl ⟨?_, trivial⟩
                 refine TI.br rfl (W1.toR (W1.look (.bool true) (by kernel_rfl) (fun _ _ => by kernel_rfl) ?_))
                 refine TI.done (by kernel_rfl) ?_
                 cases hX3
                 exact fun a w' hf hh => Exists.intro (k5 + 1) (Exists.intro z31 (Exists.intro z32 (Exists.intro z33 (Exists.intro z34 (Exists.intro z35 (Exists.intro z36 (And.intro rfl (Exists.intro V12 (And.intro (View.le_trans (View.le_trans hV10 hV11) hV12) (And.intro (((((((((Fr.nil hf).pick hf 36 rfl).pick hf 22 rfl).pick hf 21 rfl).pick hf 20 rfl).pick hf 9 rfl).pick hf 6 rfl).pick hf 4 rfl).pick hf 3 rfl) (hh.sub (.cons _ (List.Sublist.refl _)))))))))))))
            ·
             refine TI.br rfl (W1.toR (W1.look (.agg #[.int .i64 p1.pfs, .int .i64 p1.obj, .int .i64 p1.off, .int .i64 0]) (by kernel_rfl) (fun w' hh => exec_loadN (cs := [.int .i64 p1.pfs, .int .i64 p1.obj, .int .i64 p1.off, .int .i64 0]) rfl rfl (by kernel_rfl) (by kernel_rfl) (fun j u hj => (hh.box_at (i := 2) (cs := [.int .i64 p1.pfs, .int .i64 p1.obj, .int .i64 p1.off, .int .i64 0]) (by rfl) 0 j).trans (seg_at (n := 4) (by rfl) hj))) ?_))
             refine TI.all [1] (by kernel_rfl) rfl ⟨?_, trivial⟩
             obtain ⟨r3, hb5, hX3⟩ := Option.bind_eq_some_iff.1 hX3
             refine TI.br rfl <| W1.toR (W1.call (vAg eSpot) r3 15 #[.agg #[.int .i64 e2.key.pfs, .int .i64 e2.key.obj, .int .i64 e2.key.off, .int .i64 e2.made, .int .i64 e2.gone, .string e2.val]] (by kernel_rfl) (fun _ => by kernel_rfl) (fun w' hh => elem_Spot_l e2 r3 hb5 w' ) ?_)
             intro u V10 hV10 hu
             obtain rfl := sureSpot _ _ _ hu
             refine TI.all [3] (by kernel_rfl) rfl ⟨?_, trivial⟩
             obtain ⟨r4, hb6, hX3⟩ := Option.bind_eq_some_iff.1 hX3
             refine TI.br rfl <| W1.toR (W1.call (vSc eInt) r4 14 #[.agg #[.int .i64 r3.key.pfs, .int .i64 r3.key.obj, .int .i64 r3.key.off, .int .i64 r3.made], .agg #[.int .i64 p1.pfs, .int .i64 p1.obj, .int .i64 p1.off, .int .i64 0]] (by kernel_rfl) (fun _ => by kernel_rfl) (fun w' hh => key_CmpSpot_l r3 (DSpot.mk p1 0) r4 hb6 w' ) ?_)
             intro u V11 hV11 hu
             obtain rfl := sureInt _ _ _ hu
             refine TI.all [4] (by kernel_rfl) rfl ⟨?_, trivial⟩
             refine TI.br rfl (W1.toR (W1.look (.bool (decide ((0 : Int) ≤ r4))) (by kernel_rfl) (fun _ _ => by kernel_rfl) ?_))
             refine TI.all [5] (by kernel_rfl) rfl ⟨?_, trivial⟩
             refine TI.br rfl (W1.toR (W1.look (.bool (decide ((0 : Int) ≤ r4))) (by kernel_rfl) (fun _ _ => by kernel_rfl) ?_))
             cases hg1 : decide ((0 : Int) ≤ r4)
             ·
              rw [hg1, cond_false] at hX3
              refine TI.all [6, 7] (by kernel_rfl) rfl ⟨?_, ?_, trivial⟩
              ·
               refine TI.no rfl (by kernel_rfl) (by kernel_rfl) ?_
               refine TI.all [7] (by kernel_rfl) rfl ⟨?_, trivial⟩
               refine TI.no rfl (by kernel_rfl) (by kernel_rfl) ?_
               refine TI.all [8] (by kernel_rfl) rfl ⟨?_, trivial⟩
               refine TI.no rfl (by kernel_rfl) (by kernel_rfl) ?_
               refine TI.all [9] (by kernel_rfl) rfl ⟨?_, trivial⟩
               refine TI.no rfl (by kernel_rfl) (by kernel_rfl) ?_
               refine TI.all [10] (by kernel_rfl) rfl ⟨?_, trivial⟩
               refine TI.br rfl (W1.toR (W1.look (.bool false) (by kernel_rfl) (fun _ _ => by kernel_rfl) ?_))
               refine TI.done (by kernel_rfl) ?_
               cases hX3
               exact fun a w' hf hh => Exists.intro 0 (Exists.intro x8 (Exists.intro x9 (Exists.intro x10 (Exists.intro x11 (Exists.intro x12 (Exists.intro x13 (And.intro rfl (Exists.intro V11 (And.intro (View.le_trans hV10 hV11) (And.intro (((((((((Fr.nil hf).pick hf 36 rfl).pick hf 22 rfl).pick hf 21 rfl).pick hf 20 rfl).pick hf 9 rfl).pick hf 6 rfl).pick hf 4 rfl).pick hf 3 rfl) (hh.sub (.cons _ (List.Sublist.refl _)))))))))))))
              ·
               refine TI.no rfl (by kernel_rfl) (by kernel_rfl) ?_
               refine TI.all [6] (by kernel_rfl) rfl ⟨?_, trivial⟩
               refine TI.no rfl (by kernel_rfl) (by kernel_rfl) ?_
               refine TI.all [8] (by kernel_rfl) rfl ⟨?_, trivial⟩
               refine TI.no rfl (by kernel_rfl) (by kernel_rfl) ?_
               refine TI.all [9] (by kernel_rfl) rfl ⟨?_, trivial⟩
               refine TI.no rfl (by kernel_rfl) (by kernel_rfl) ?_
               refine TI.all [10] (by kernel_rfl) rfl ⟨?_, trivial⟩
               refine TI.br rfl (W1.toR (W1.look (.bool false) (by kernel_rfl) (fun _ _ => by kernel_rfl) ?_))
               refine TI.done (by kernel_rfl) ?_
               cases hX3
               exact fun a w' hf hh => Exists.intro 0 (Exists.intro x8 (Exists.intro x9 (Exists.intro x10 (Exists.intro x11 (Exists.intro x12 (Exists.intro x13 (And.intro rfl (Exists.intro V11 (And.intro (View.le_trans hV10 hV11) (And.intro (((((((((Fr.nil hf).pick hf 36 rfl).pick hf 22 rfl).pick hf 21 rfl).pick hf 20 rfl).pick hf 9 rfl).pick hf 6 rfl).pick hf 4 rfl).pick hf 3 rfl) (hh.sub (.cons _ (List.Sublist.refl _)))))))))))))
             ·
              rw [hg1, cond_true] at hX3
              refine TI.all [6, 7] (by kernel_rfl) rfl ⟨?_, ?_, trivial⟩
              ·
               refine TI.br rfl (W1.toR (W1.look (.func (.yield l1) #[] #[]) (by kernel_rfl) (fun _ _ => by kernel_rfl) ?_))
               refine TI.all [7] (by kernel_rfl) rfl ⟨?_, trivial⟩
               refine TI.br rfl (W1.toR (W1.look (.agg #[.int .i64 e2.key.pfs, .int .i64 e2.key.obj, .int .i64 e2.key.off, .int .i64 e2.made, .int .i64 e2.gone, .string e2.val]) (by kernel_rfl) (fun w' hh => exec_loadN (cs := (cEPastAL e2)) rfl rfl (by kernel_rfl) (by kernel_rfl) (fun j u hj => (hh.box_at (i := 0) (cs := (cEPastAL e2)) (by rfl) 0 j).trans (seg_at (n := 6) (by rfl) hj))) ?_))
               refine TI.all [8] (by kernel_rfl) rfl ⟨?_, trivial⟩
               obtain ⟨q6, hX4, hX3⟩ := Option.bind_eq_some_iff.1 hX3
               refine TI.br rfl (W1R.yield 4 l1 (fun v w' => ∃ (k4 : Nat) (z31 : Int) (z32 : Int) (z33 : Int) (z34 : Int) (z35 : Int) (z36 : ByteArray), q6 = (k4, z31, z32, z33, z34, z35, z36) ∧ ∃ (V12 : View), View.le V11 V12 ∧ v = .bool (isz k4) ∧ Hp w V12 ((box b11 39 (cEPastAL e2)) :: (box b10 57 (cNPastAL e1 A2 c2 A3 c3 A4 c4 A5 c5)) :: (box b9 36 [.int .i64 p1.pfs, .int .i64 p1.obj, .int .i64 p1.off, .int .i64 0]) :: (box b8 24 [.int .i64 p0.root, .slice A1 p0.nodes.length c1]) :: (loopo l1 lr1 (.exit 0) [.ret] k4) :: (marko d1) :: (box b5 25 [.int .i64 0]) :: (box b4 39 [.int .i64 z31, .int .i64 z32, .int .i64 z33, .int .i64 z34, .int .i64 z35, .string z36]) :: (box b3 3 [.int .i64 p2]) :: (box b2 34 (cKPastAL p1)) :: G1) w') (by rfl) hl1 hl2 hl3 hl4 (by rfl) (by kernel_rfl) rfl (by kernel_rfl) rfl ?_ ?_)
               ·
                refine T.region ?_
                refine T.step (W1.new 39 [.int .i64 0, .int .i64 0, .int .i64 0, .int .i64 0, .int .i64 0, .string (ByteArray.mk #[])] (fun b => .pointer (some ⟨b, 0, none⟩)) (by kernel_rfl) (fun _ => by kernel_rfl) (fun b12 => ?_))
                refine T.step (W1.store 0 (cEPastAL e2) ((box b12 39 (cEPastAL e2)) :: (box b11 39 (cEPastAL e2)) :: (box b10 57 (cNPastAL e1 A2 c2 A3 c3 A4 c4 A5 c5)) :: (box b9 36 [.int .i64 p1.pfs, .int .i64 p1.obj, .int .i64 p1.off, .int .i64 0]) :: (box b8 24 [.int .i64 p0.root, .slice A1 p0.nodes.length c1]) :: (loopo l1 lr1 (.exit 0) [.ret] 0) :: (marko d1) :: (box b5 25 [.int .i64 0]) :: (box b4 39 [.int .i64 x8, .int .i64 x9, .int .i64 x10, .int .i64 x11, .int .i64 x12, .string x13]) :: (box b3 3 [.int .i64 p2]) :: (box b2 34 (cKPastAL p1)) :: G1) (by rfl) rfl (by kernel_rfl) (fun w' hw => exec_store (vs := (cEPastAL e2)) rfl rfl rfl rfl (by kernel_rfl) (one_of rfl) (by simp) rfl hw) ?_)
                refine T.nil ?_
                refine T.unthenN ?_
                refine T.begin 5 ((box b12 39 (cEPastAL e2)) :: (box b11 39 (cEPastAL e2)) :: (box b10 57 (cNPastAL e1 A2 c2 A3 c3 A4 c4 A5 c5)) :: (box b9 36 [.int .i64 p1.pfs, .int .i64 p1.obj, .int .i64 p1.off, .int .i64 0]) :: (box b8 24 [.int .i64 p0.root, .slice A1 p0.nodes.length c1]) :: (busyo l1 lr1) :: (marko d1) :: (box b5 25 [.int .i64 0]) :: (box b4 39 [.int .i64 x8, .int .i64 x9, .int .i64 x10, .int .i64 x11, .int .i64 x12, .string x13]) :: (box b3 3 [.int .i64 p2]) :: (box b2 34 (cKPastAL p1)) :: G1) (by rfl) rfl ?_
                refine T.block ?_
                refine T.seq ?_
                refine T.seq ?_
                refine T.region ?_
                refine T.pure (.pointer (some ⟨b12, 0, none⟩)) (by kernel_rfl) (fun _ => by kernel_rfl) ?_
                refine T.look (.agg #[.int .i64 e2.key.pfs, .int .i64 e2.key.obj, .int .i64 e2.key.off]) (by kernel_rfl) (fun w' hh => exec_loadN (cs := (cKPastAL e2.key)) rfl rfl (by kernel_rfl) (by kernel_rfl) (fun j u hj => (hh.box_at (i := 0) (cs := (cEPastAL e2)) (by rfl) 0 j).trans (seg_at (n := 3) (by rfl) hj))) ?_
                refine T.look (.agg #[.int .i64 p1.pfs, .int .i64 p1.obj, .int .i64 p1.off]) (by kernel_rfl) (fun w' hh => exec_loadN (cs := (cKPastAL p1)) rfl rfl (by kernel_rfl) (by kernel_rfl) (fun j u hj => (hh.box_at (i := 10) (cs := (cKPastAL p1)) (by rfl) 0 j).trans (seg_at (n := 3) (by rfl) hj))) ?_
                refine T.look (.bool (!(e2.key == p1))) (by kernel_rfl) (fun w' hh => exec_neq_DKey e2.key p1 w' rfl rfl rfl) ?_
                refine T.nil ?_
                refine T.cond (!(e2.key == p1)) (by kernel_rfl) (by kernel_rfl) (fun hc5 => ?_) (fun hc5 => ?_)
                ·
                 rw [hc5, cond_true] at hX4
                 refine T.exit ?_
                 cases hX4
                 repeat first | refine T.unthenX ?_ | refine T.unblockX rfl ?_
                 exact T.roundExit (.exit 0) [.ret] 0 5 ((box b12 39 (cEPastAL e2)) :: (box b11 39 (cEPastAL e2)) :: (box b10 57 (cNPastAL e1 A2 c2 A3 c3 A4 c4 A5 c5)) :: (box b9 36 [.int .i64 p1.pfs, .int .i64 p1.obj, .int .i64 p1.off, .int .i64 0]) :: (box b8 24 [.int .i64 p0.root, .slice A1 p0.nodes.length c1]) :: (loopo l1 lr1 (.exit 0) [.ret] (0 + 1)) :: (marko d1) :: (box b5 25 [.int .i64 0]) :: (box b4 39 [.int .i64 x8, .int .i64 x9, .int .i64 x10, .int .i64 x11, .int .i64 x12, .string x13]) :: (box b3 3 [.int .i64 p2]) :: (box b2 34 (cKPastAL p1)) :: G1) (by rfl) rfl rfl (fun w' hh => ⟨_, rfl, Exists.intro (0 + 1) (Exists.intro x8 (Exists.intro x9 (Exists.intro x10 (Exists.intro x11 (Exists.intro x12 (Exists.intro x13 (And.intro rfl (Exists.intro V11 (And.intro (View.le_refl _) (And.intro rfl (hh.sub (.cons _ (List.Sublist.refl _)))))))))))))⟩)
                ·
                 rw [hc5, cond_false] at hX4
                 refine T.skip_code ?_
                 refine T.seq ?_
                 refine T.region ?_
                 refine T.look (.agg #[.int .i64 e2.key.pfs, .int .i64 e2.key.obj, .int .i64 e2.key.off, .int .i64 e2.made, .int .i64 e2.gone, .string e2.val]) (by kernel_rfl) (fun w' hh => exec_loadN (cs := (cEPastAL e2)) rfl rfl (by kernel_rfl) (by kernel_rfl) (fun j u hj => (hh.box_at (i := 0) (cs := (cEPastAL e2)) (by rfl) 0 j).trans (seg_at (n := 6) (by rfl) hj))) ?_
                 refine T.look (.int .i64 p2) (by kernel_rfl) (fun w' hh => exec_load1 rfl rfl (by kernel_rfl) (hh.cellBox (i := 9) (by rfl) 0)) ?_
                 obtain ⟨r5, hb7, hX4⟩ := Option.bind_eq_some_iff.1 hX4
                 refine T.step (W1.call (vSc eBool) r5 51 #[.agg #[.int .i64 e2.key.pfs, .int .i64 e2.key.obj, .int .i64 e2.key.off, .int .i64 e2.made, .int .i64 e2.gone, .string e2.val], .int .i64 p2] (by kernel_rfl) (fun _ => by kernel_rfl) (fun w' hh => elem_Live_l e2 p2 r5 hb7 w' ) ?_)
                 intro u V13 hV13 hu
                 obtain rfl := sureBool _ _ _ hu
                 refine T.nil ?_
                 refine T.cond r5 (by kernel_rfl) (by kernel_rfl) (fun hc6 => ?_) (fun hc6 => ?_)
                 ·
                  rw [hc6, cond_true] at hX4
                  refine T.seq ?_
                  refine T.region ?_
                  refine T.look (.agg #[.int .i64 e2.key.pfs, .int .i64 e2.key.obj, .int .i64 e2.key.off, .int .i64 e2.made, .int .i64 e2.gone, .string e2.val]) (by kernel_rfl) (fun w' hh => exec_loadN (cs := (cEPastAL e2)) rfl rfl (by kernel_rfl) (by kernel_rfl) (fun j u hj => (hh.box_at (i := 0) (cs := (cEPastAL e2)) (by rfl) 0 j).trans (seg_at (n := 6) (by rfl) hj))) ?_
                  refine T.step (W1.store 8 (cEPastAL e2) ((box b12 39 (cEPastAL e2)) :: (box b11 39 (cEPastAL e2)) :: (box b10 57 (cNPastAL e1 A2 c2 A3 c3 A4 c4 A5 c5)) :: (box b9 36 [.int .i64 p1.pfs, .int .i64 p1.obj, .int .i64 p1.off, .int .i64 0]) :: (box b8 24 [.int .i64 p0.root, .slice A1 p0.nodes.length c1]) :: (busyo l1 lr1) :: (marko d1) :: (box b5 25 [.int .i64 0]) :: (box b4 39 (cEPastAL e2)) :: (box b3 3 [.int .i64 p2]) :: (box b2 34 (cKPastAL p1)) :: G1) (by rfl) rfl (by kernel_rfl) (fun w' hw => exec_store (vs := (cEPastAL e2)) rfl rfl rfl rfl (by kernel_rfl) (one_of rfl) (by simp) rfl hw) ?_)
                  refine T.step (W1.store 7 [.int .i64 0] ((box b12 39 (cEPastAL e2)) :: (box b11 39 (cEPastAL e2)) :: (box b10 57 (cNPastAL e1 A2 c2 A3 c3 A4 c4 A5 c5)) :: (box b9 36 [.int .i64 p1.pfs, .int .i64 p1.obj, .int .i64 p1.off, .int .i64 0]) :: (box b8 24 [.int .i64 p0.root, .slice A1 p0.nodes.length c1]) :: (busyo l1 lr1) :: (marko d1) :: (box b5 25 [.int .i64 0]) :: (box b4 39 (cEPastAL e2)) :: (box b3 3 [.int .i64 p2]) :: (box b2 34 (cKPastAL p1)) :: G1) (by rfl) rfl (by kernel_rfl) (fun w' hw => exec_store (vs := [.int .i64 0]) rfl rfl rfl rfl (by kernel_rfl) (one_of rfl) (by simp) rfl hw) ?_)
                  refine T.nil ?_
                  cases hX4
                  refine T.ret rfl ?_
                  repeat first | refine T.unthenR ?_ | refine T.unblockR ?_
                  exact T.roundRet (.exit 0) [.ret] 1 5 ((box b12 39 (cEPastAL e2)) :: (box b11 39 (cEPastAL e2)) :: (box b10 57 (cNPastAL e1 A2 c2 A3 c3 A4 c4 A5 c5)) :: (box b9 36 [.int .i64 p1.pfs, .int .i64 p1.obj, .int .i64 p1.off, .int .i64 0]) :: (box b8 24 [.int .i64 p0.root, .slice A1 p0.nodes.length c1]) :: (loopo l1 lr1 (.exit 0) [.ret] (1 + 1)) :: (marko d1) :: (box b5 25 [.int .i64 0]) :: (box b4 39 (cEPastAL e2)) :: (box b3 3 [.int .i64 p2]) :: (box b2 34 (cKPastAL p1)) :: G1) (by rfl) rfl rfl (fun w' hh => ⟨_, rfl, Exists.intro (1 + 1) (Exists.intro e2.key.pfs (Exists.intro e2.key.obj (Exists.intro e2.key.off (Exists.intro e2.made (Exists.intro e2.gone (Exists.intro e2.val (And.intro rfl (Exists.intro V13 (And.intro hV13 (And.intro rfl (hh.sub (.cons _ (List.Sublist.refl _)))))))))))))⟩)
                 ·
                  rw [hc6, cond_false] at hX4
                  refine T.skip_code ?_
                  cases hX4
                  repeat first | refine T.unthenN ?_ | refine T.unblockN ?_
                  exact T.roundEnd (.exit 0) [.ret] 5 ((box b12 39 (cEPastAL e2)) :: (box b11 39 (cEPastAL e2)) :: (box b10 57 (cNPastAL e1 A2 c2 A3 c3 A4 c4 A5 c5)) :: (box b9 36 [.int .i64 p1.pfs, .int .i64 p1.obj, .int .i64 p1.off, .int .i64 0]) :: (box b8 24 [.int .i64 p0.root, .slice A1 p0.nodes.length c1]) :: (loopo l1 lr1 (.exit 0) [.ret] 0) :: (marko d1) :: (box b5 25 [.int .i64 0]) :: (box b4 39 [.int .i64 x8, .int .i64 x9, .int .i64 x10, .int .i64 x11, .int .i64 x12, .string x13]) :: (box b3 3 [.int .i64 p2]) :: (box b2 34 (cKPastAL p1)) :: G1) (by rfl) rfl (fun w' hh => ⟨_, rfl, Exists.intro 0 (Exists.intro x8 (Exists.intro x9 (Exists.intro x10 (Exists.intro x11 (Exists.intro x12 (Exists.intro x13 (And.intro rfl (Exists.intro V13 (And.intro hV13 (And.intro rfl (hh.sub (.cons _ (List.Sublist.refl _)))))))))))))⟩)
               ·
                rintro v w' ⟨k4, z31, z32, z33, z34, z35, z36, rfl, V12, hV12, rfl, hh⟩
                try dsimp only at hX3
                refine ⟨V12, ((box b11 39 (cEPastAL e2)) :: (box b10 57 (cNPastAL e1 A2 c2 A3 c3 A4 c4 A5 c5)) :: (box b9 36 [.int .i64 p1.pfs, .int .i64 p1.obj, .int .i64 p1.off, .int .i64 0]) :: (box b8 24 [.int .i64 p0.root, .slice A1 p0.nodes.length c1]) :: (loopo l1 lr1 (.exit 0) [.ret] k4) :: (marko d1) :: (box b5 25 [.int .i64 0]) :: (box b4 39 [.int .i64 z31, .int .i64 z32, .int .i64 z33, .int .i64 z34, .int .i64 z35, .string z36]) :: (box b3 3 [.int .i64 p2]) :: (box b2 34 (cKPastAL p1)) :: G1), hh, ?_⟩
                clear hh
                cases k4 with
                | zero =>
                 rw [natCase_zero] at hX3
                 refine TI.all [9] (by kernel_rfl) rfl ⟨?_, trivial⟩
                 refine TI.br rfl (W1.toR (W1.look (.bool false) (by kernel_rfl) (fun _ _ => by kernel_rfl) ?_))
                 refine TI.all [10] (by kernel_rfl) rfl ⟨?_, trivial⟩
                 refine TI.br rfl (W1.toR (W1.look (.bool false) (by kernel_rfl) (fun _ _ => by kernel_rfl) ?_))
                 refine TI.done (by kernel_rfl) ?_
                 cases hX3
                 exact fun a w' hf hh => Exists.intro 0 (Exists.intro z31 (Exists.intro z32 (Exists.intro z33 (Exists.intro z34 (Exists.intro z35 (Exists.intro z36 (And.intro rfl (Exists.intro V12 (And.intro (View.le_trans (View.le_trans hV10 hV11) hV12) (And.intro (((((((((Fr.nil hf).pick hf 36 rfl).pick hf 22 rfl).pick hf 21 rfl).pick hf 20 rfl).pick hf 9 rfl).pick hf 6 rfl).pick hf 4 rfl).pick hf 3 rfl) (hh.sub (.cons _ (List.Sublist.refl _)))))))))))))
                | succ k5 =>
                 rw [natCase_succ] at hX3
                 refine TI.all [9] (by kernel_rfl) rfl ⟨?_, trivial⟩
                 refine TI.br rfl (W1.toR (W1.look (.bool true) (by kernel_rfl) (fun _ _ => by kernel_rfl) ?_))
                 refine TI.all [10] (by kernel_rfl) rfl ⟨?_, trivial⟩
                 refine TI.br rfl (W1.toR (W1.look (.bool true) (by kernel_rfl) (fun _ _ => by kernel_rfl) ?_))
                 refine TI.done (by kernel_rfl) ?_
                 cases hX3
                 exact fun a w' hf hh => Exists.intro (k5 + 1) (Exists.intro z31 (Exists.intro z32 (Exists.intro z33 (Exists.intro z34 (Exists.intro z35 (Exists.intro z36 (And.intro rfl (Exists.intro V12 (And.intro (View.le_trans (View.le_trans hV10 hV11) hV12) (And.intro (((((((((Fr.nil hf).pick hf 36 rfl).pick hf 22 rfl).pick hf 21 rfl).pick hf 20 rfl).pick hf 9 rfl).pick hf 6 rfl).pick hf 4 rfl).pick hf 3 rfl) (hh.sub (.cons _ (List.Sublist.refl _)))))))))))))
              ·
               refine TI.br rfl (W1.toR (W1.look (.agg #[.int .i64 e2.key.pfs, .int .i64 e2.key.obj, .int .i64 e2.key.off, .int .i64 e2.made, .int .i64 e2.gone, .string e2.val]) (by kernel_rfl) (fun w' hh => exec_loadN (cs := (cEPastAL e2)) rfl rfl (by kernel_rfl) (by kernel_rfl) (fun j u hj => (hh.box_at (i := 0) (cs := (cEPastAL e2)) (by rfl) 0 j).trans (seg_at (n := 6) (by rfl) hj))) ?_))
               refine TI.all [6] (by kernel_rfl) rfl ⟨?_, trivial⟩
               refine TI.br rfl (W1.toR (W1.look (.func (.yield l1) #[] #[]) (by kernel_rfl) (fun _ _ => by kernel_rfl) ?_))
               refine TI.all [8] (by kernel_rfl) rfl ⟨?_, trivial⟩
               obtain ⟨q6, hX4, hX3⟩ := Option.bind_eq_some_iff.1 hX3
               refine TI.br rfl (W1R.yield 4 l1 (fun v w' => ∃ (k4 : Nat) (z31 : Int) (z32 : Int) (z33 : Int) (z34 : Int) (z35 : Int) (z36 : ByteArray), q6 = (k4, z31, z32, z33, z34, z35, z36) ∧ ∃ (V12 : View), View.le V11 V12 ∧ v = .bool (isz k4) ∧ Hp w V12 ((box b11 39 (cEPastAL e2)) :: (box b10 57 (cNPastAL e1 A2 c2 A3 c3 A4 c4 A5 c5)) :: (box b9 36 [.int .i64 p1.pfs, .int .i64 p1.obj, .int .i64 p1.off, .int .i64 0]) :: (box b8 24 [.int .i64 p0.root, .slice A1 p0.nodes.length c1]) :: (loopo l1 lr1 (.exit 0) [.ret] k4) :: (marko d1) :: (box b5 25 [.int .i64 0]) :: (box b4 39 [.int .i64 z31, .int .i64 z32, .int .i64 z33, .int .i64 z34, .int .i64 z35, .string z36]) :: (box b3 3 [.int .i64 p2]) :: (box b2 34 (cKPastAL p1)) :: G1) w') (by rfl) hl1 hl2 hl3 hl4 (by rfl) (by kernel_rfl) rfl (by kernel_rfl) rfl ?_ ?_)
               ·
                refine T.region ?_
                refine T.step (W1.new 39 [.int .i64 0, .int .i64 0, .int .i64 0, .int .i64 0, .int .i64 0, .string (ByteArray.mk #[])] (fun b => .pointer (some ⟨b, 0, none⟩)) (by kernel_rfl) (fun _ => by kernel_rfl) (fun b12 => ?_))
                refine T.step (W1.store 0 (cEPastAL e2) ((box b12 39 (cEPastAL e2)) :: (box b11 39 (cEPastAL e2)) :: (box b10 57 (cNPastAL e1 A2 c2 A3 c3 A4 c4 A5 c5)) :: (box b9 36 [.int .i64 p1.pfs, .int .i64 p1.obj, .int .i64 p1.off, .int .i64 0]) :: (box b8 24 [.int .i64 p0.root, .slice A1 p0.nodes.length c1]) :: (loopo l1 lr1 (.exit 0) [.ret] 0) :: (marko d1) :: (box b5 25 [.int .i64 0]) :: (box b4 39 [.int .i64 x8, .int .i64 x9, .int .i64 x10, .int .i64 x11, .int .i64 x12, .string x13]) :: (box b3 3 [.int .i64 p2]) :: (box b2 34 (cKPastAL p1)) :: G1) (by rfl) rfl (by kernel_rfl) (fun w' hw => exec_store (vs := (cEPastAL e2)) rfl rfl rfl rfl (by kernel_rfl) (one_of rfl) (by simp) rfl hw) ?_)
                refine T.nil ?_
                refine T.unthenN ?_
                refine T.begin 5 ((box b12 39 (cEPastAL e2)) :: (box b11 39 (cEPastAL e2)) :: (box b10 57 (cNPastAL e1 A2 c2 A3 c3 A4 c4 A5 c5)) :: (box b9 36 [.int .i64 p1.pfs, .int .i64 p1.obj, .int .i64 p1.off, .int .i64 0]) :: (box b8 24 [.int .i64 p0.root, .slice A1 p0.nodes.length c1]) :: (busyo l1 lr1) :: (marko d1) :: (box b5 25 [.int .i64 0]) :: (box b4 39 [.int .i64 x8, .int .i64 x9, .int .i64 x10, .int .i64 x11, .int .i64 x12, .string x13]) :: (box b3 3 [.int .i64 p2]) :: (box b2 34 (cKPastAL p1)) :: G1) (by rfl) rfl ?_
                refine T.block ?_
                refine T.seq ?_
                refine T.seq ?_
                refine T.region ?_
                refine T.pure (.pointer (some ⟨b12, 0, none⟩)) (by kernel_rfl) (fun _ => by kernel_rfl) ?_
                refine T.look (.agg #[.int .i64 e2.key.pfs, .int .i64 e2.key.obj, .int .i64 e2.key.off]) (by kernel_rfl) (fun w' hh => exec_loadN (cs := (cKPastAL e2.key)) rfl rfl (by kernel_rfl) (by kernel_rfl) (fun j u hj => (hh.box_at (i := 0) (cs := (cEPastAL e2)) (by rfl) 0 j).trans (seg_at (n := 3) (by rfl) hj))) ?_
                refine T.look (.agg #[.int .i64 p1.pfs, .int .i64 p1.obj, .int .i64 p1.off]) (by kernel_rfl) (fun w' hh => exec_loadN (cs := (cKPastAL p1)) rfl rfl (by kernel_rfl) (by kernel_rfl) (fun j u hj => (hh.box_at (i := 10) (cs := (cKPastAL p1)) (by rfl) 0 j).trans (seg_at (n := 3) (by rfl) hj))) ?_
                refine T.look (.bool (!(e2.key == p1))) (by kernel_rfl) (fun w' hh => exec_neq_DKey e2.key p1 w' rfl rfl rfl) ?_
                refine T.nil ?_
                refine T.cond (!(e2.key == p1)) (by kernel_rfl) (by kernel_rfl) (fun hc5 => ?_) (fun hc5 => ?_)
                ·
                 rw [hc5, cond_true] at hX4
                 refine T.exit ?_
                 cases hX4
                 repeat first | refine T.unthenX ?_ | refine T.unblockX rfl ?_
                 exact T.roundExit (.exit 0) [.ret] 0 5 ((box b12 39 (cEPastAL e2)) :: (box b11 39 (cEPastAL e2)) :: (box b10 57 (cNPastAL e1 A2 c2 A3 c3 A4 c4 A5 c5)) :: (box b9 36 [.int .i64 p1.pfs, .int .i64 p1.obj, .int .i64 p1.off, .int .i64 0]) :: (box b8 24 [.int .i64 p0.root, .slice A1 p0.nodes.length c1]) :: (loopo l1 lr1 (.exit 0) [.ret] (0 + 1)) :: (marko d1) :: (box b5 25 [.int .i64 0]) :: (box b4 39 [.int .i64 x8, .int .i64 x9, .int .i64 x10, .int .i64 x11, .int .i64 x12, .string x13]) :: (box b3 3 [.int .i64 p2]) :: (box b2 34 (cKPastAL p1)) :: G1) (by rfl) rfl rfl (fun w' hh => ⟨_, rfl, Exists.intro (0 + 1) (Exists.intro x8 (Exists.intro x9 (Exists.intro x10 (Exists.intro x11 (Exists.intro x12 (Exists.intro x13 (And.intro rfl (Exists.intro V11 (And.intro (View.le_refl _) (And.intro rfl (hh.sub (.cons _ (List.Sublist.refl _)))))))))))))⟩)
                ·
                 rw [hc5, cond_false] at hX4
                 refine T.skip_code ?_
                 refine T.seq ?_
                 refine T.region ?_
                 refine T.look (.agg #[.int .i64 e2.key.pfs, .int .i64 e2.key.obj, .int .i64 e2.key.off, .int .i64 e2.made, .int .i64 e2.gone, .string e2.val]) (by kernel_rfl) (fun w' hh => exec_loadN (cs := (cEPastAL e2)) rfl rfl (by kernel_rfl) (by kernel_rfl) (fun j u hj => (hh.box_at (i := 0) (cs := (cEPastAL e2)) (by rfl) 0 j).trans (seg_at (n := 6) (by rfl) hj))) ?_
                 refine T.look (.int .i64 p2) (by kernel_rfl) (fun w' hh => exec_load1 rfl rfl (by kernel_rfl) (hh.cellBox (i := 9) (by rfl) 0)) ?_
                 obtain ⟨r5, hb7, hX4⟩ := Option.bind_eq_some_iff.1 hX4
                 refine T.step (W1.call (vSc eBool) r5 51 #[.agg #[.int .i64 e2.key.pfs, .int .i64 e2.key.obj, .int .i64 e2.key.off, .int .i64 e2.made, .int .i64 e2.gone, .string e2.val], .int .i64 p2] (by kernel_rfl) (fun _ => by kernel_rfl) (fun w' hh => elem_Live_l e2 p2 r5 hb7 w' ) ?_)
                 intro u V13 hV13 hu
                 obtain rfl := sureBool _ _ _ hu
                 refine T.nil ?_
                 refine T.cond r5 (by kernel_rfl) (by kernel_rfl) (fun hc6 => ?_) (fun hc6 => ?_)
                 ·
                  rw [hc6, cond_true] at hX4
                  refine T.seq ?_
                  refine T.region ?_
                  refine T.look (.agg #[.int .i64 e2.key.pfs, .int .i64 e2.key.obj, .int .i64 e2.key.off, .int .i64 e2.made, .int .i64 e2.gone, .string e2.val]) (by kernel_rfl) (fun w' hh => exec_loadN (cs := (cEPastAL e2)) rfl rfl (by kernel_rfl) (by kernel_rfl) (fun j u hj => (hh.box_at (i := 0) (cs := (cEPastAL e2)) (by rfl) 0 j).trans (seg_at (n := 6) (by rfl) hj))) ?_
                  refine T.step (W1.store 8 (cEPastAL e2) ((box b12 39 (cEPastAL e2)) :: (box b11 39 (cEPastAL e2)) :: (box b10 57 (cNPastAL e1 A2 c2 A3 c3 A4 c4 A5 c5)) :: (box b9 36 [.int .i64 p1.pfs, .int .i64 p1.obj, .int .i64 p1.off, .int .i64 0]) :: (box b8 24 [.int .i64 p0.root, .slice A1 p0.nodes.length c1]) :: (busyo l1 lr1) :: (marko d1) :: (box b5 25 [.int .i64 0]) :: (box b4 39 (cEPastAL e2)) :: (box b3 3 [.int .i64 p2]) :: (box b2 34 (cKPastAL p1)) :: G1) (by rfl) rfl (by kernel_rfl) (fun w' hw => exec_store (vs := (cEPastAL e2)) rfl rfl rfl rfl (by kernel_rfl) (one_of rfl) (by simp) rfl hw) ?_)
                  refine T.step (W1.store 7 [.int .i64 0] ((box b12 39 (cEPastAL e2)) :: (box b11 39 (cEPastAL e2)) :: (box b10 57 (cNPastAL e1 A2 c2 A3 c3 A4 c4 A5 c5)) :: (box b9 36 [.int .i64 p1.pfs, .int .i64 p1.obj, .int .i64 p1.off, .int .i64 0]) :: (box b8 24 [.int .i64 p0.root, .slice A1 p0.nodes.length c1]) :: (busyo l1 lr1) :: (marko d1) :: (box b5 25 [.int .i64 0]) :: (box b4 39 (cEPastAL e2)) :: (box b3 3 [.int .i64 p2]) :: (box b2 34 (cKPastAL p1)) :: G1) (by rfl) rfl (by kernel_rfl) (fun w' hw => exec_store (vs := [.int .i64 0]) rfl rfl rfl rfl (by kernel_rfl) (one_of rfl) (by simp) rfl hw) ?_)
                  refine T.nil ?_
                  cases hX4
                  refine T.ret rfl ?_
                  repeat first | refine T.unthenR ?_ | refine T.unblockR ?_
                  exact T.roundRet (.exit 0) [.ret] 1 5 ((box b12 39 (cEPastAL e2)) :: (box b11 39 (cEPastAL e2)) :: (box b10 57 (cNPastAL e1 A2 c2 A3 c3 A4 c4 A5 c5)) :: (box b9 36 [.int .i64 p1.pfs, .int .i64 p1.obj, .int .i64 p1.off, .int .i64 0]) :: (box b8 24 [.int .i64 p0.root, .slice A1 p0.nodes.length c1]) :: (loopo l1 lr1 (.exit 0) [.ret] (1 + 1)) :: (marko d1) :: (box b5 25 [.int .i64 0]) :: (box b4 39 (cEPastAL e2)) :: (box b3 3 [.int .i64 p2]) :: (box b2 34 (cKPastAL p1)) :: G1) (by rfl) rfl rfl (fun w' hh => ⟨_, rfl, Exists.intro (1 + 1) (Exists.intro e2.key.pfs (Exists.intro e2.key.obj (Exists.intro e2.key.off (Exists.intro e2.made (Exists.intro e2.gone (Exists.intro e2.val (And.intro rfl (Exists.intro V13 (And.intro hV13 (And.intro rfl (hh.sub (.cons _ (List.Sublist.refl _)))))))))))))⟩)
                 ·
                  rw [hc6, cond_false] at hX4
                  refine T.skip_code ?_
                  cases hX4
                  repeat first | refine T.unthenN ?_ | refine T.unblockN ?_
                  exact T.roundEnd (.exit 0) [.ret] 5 ((box b12 39 (cEPastAL e2)) :: (box b11 39 (cEPastAL e2)) :: (box b10 57 (cNPastAL e1 A2 c2 A3 c3 A4 c4 A5 c5)) :: (box b9 36 [.int .i64 p1.pfs, .int .i64 p1.obj, .int .i64 p1.off, .int .i64 0]) :: (box b8 24 [.int .i64 p0.root, .slice A1 p0.nodes.length c1]) :: (loopo l1 lr1 (.exit 0) [.ret] 0) :: (marko d1) :: (box b5 25 [.int .i64 0]) :: (box b4 39 [.int .i64 x8, .int .i64 x9, .int .i64 x10, .int .i64 x11, .int .i64 x12, .string x13]) :: (box b3 3 [.int .i64 p2]) :: (box b2 34 (cKPastAL p1)) :: G1) (by rfl) rfl (fun w' hh => ⟨_, rfl, Exists.intro 0 (Exists.intro x8 (Exists.intro x9 (Exists.intro x10 (Exists.intro x11 (Exists.intro x12 (Exists.intro x13 (And.intro rfl (Exists.intro V13 (And.intro hV13 (And.intro rfl (hh.sub (.cons _ (List.Sublist.refl _)))))))))))))⟩)
               ·
                rintro v w' ⟨k4, z31, z32, z33, z34, z35, z36, rfl, V12, hV12, rfl, hh⟩
                try dsimp only at hX3
                refine ⟨V12, ((box b11 39 (cEPastAL e2)) :: (box b10 57 (cNPastAL e1 A2 c2 A3 c3 A4 c4 A5 c5)) :: (box b9 36 [.int .i64 p1.pfs, .int .i64 p1.obj, .int .i64 p1.off, .int .i64 0]) :: (box b8 24 [.int .i64 p0.root, .slice A1 p0.nodes.length c1]) :: (loopo l1 lr1 (.exit 0) [.ret] k4) :: (marko d1) :: (box b5 25 [.int .i64 0]) :: (box b4 39 [.int .i64 z31, .int .i64 z32, .int .i64 z33, .int .i64 z34, .int .i64 z35, .string z36]) :: (box b3 3 [.int .i64 p2]) :: (box b2 34 (cKPastAL p1)) :: G1), hh, ?_⟩
                clear hh
                cases k4 with
                | zero =>
                 rw [natCase_zero] at hX3
                 refine TI.all [9] (by kernel_rfl) rfl ⟨?_, trivial⟩
                 refine TI.br rfl (W1.toR (W1.look (.bool false) (by kernel_rfl) (fun _ _ => by kernel_rfl) ?_))
                 refine TI.all [10] (by kernel_rfl) rfl ⟨?_, trivial⟩
                 refine TI.br rfl (W1.toR (W1.look (.bool false) (by kernel_rfl) (fun _ _ => by kernel_rfl) ?_))
                 refine TI.done (by kernel_rfl) ?_
                 cases hX3
                 exact fun a w' hf hh => Exists.intro 0 (Exists.intro z31 (Exists.intro z32 (Exists.intro z33 (Exists.intro z34 (Exists.intro z35 (Exists.intro z36 (And.intro rfl (Exists.intro V12 (And.intro (View.le_trans (View.le_trans hV10 hV11) hV12) (And.intro (((((((((Fr.nil hf).pick hf 36 rfl).pick hf 22 rfl).pick hf 21 rfl).pick hf 20 rfl).pick hf 9 rfl).pick hf 6 rfl).pick hf 4 rfl).pick hf 3 rfl) (hh.sub (.cons _ (List.Sublist.refl _)))))))))))))
                | succ k5 =>
                 rw [natCase_succ] at hX3
                 refine TI.all [9] (by kernel_rfl) rfl ⟨?_, trivial⟩
                 refine TI.br rfl (W1.toR (W1.look (.bool true) (by kernel_rfl) (fun _ _ => by kernel_rfl) ?_))
                 refine TI.all [10] (by kernel_rfl) rfl ⟨?_, trivial⟩
                 refine TI.br rfl (W1.toR (W1.look (.bool true) (by kernel_rfl) (fun _ _ => by kernel_rfl) ?_))
                 refine TI.done (by kernel_rfl) ?_
                 cases hX3
                 exact fun a w' hf hh => Exists.intro (k5 + 1) (Exists.intro z31 (Exists.intro z32 (Exists.intro z33 (Exists.intro z34 (Exists.intro z35 (Exists.intro z36 (And.intro rfl (Exists.intro V12 (And.intro (View.le_trans (View.le_trans hV10 hV11) hV12) (And.intro (((((((((Fr.nil hf).pick hf 36 rfl).pick hf 22 rfl).pick hf 21 rfl).pick hf 20 rfl).pick hf 9 rfl).pick hf 6 rfl).pick hf 4 rfl).pick hf 3 rfl) (hh.sub (.cons _ (List.Sublist.refl _)))))))))))))
           ·
            refine TI.br rfl (W1.toR (W1.look (.agg #[.int .i64 p1.pfs, .int .i64 p1.obj, .int .i64 p1.off, .int .i64 0]) (by kernel_rfl) (fun w' hh => exec_loadN (cs := [.int .i64 p1.pfs, .int .i64 p1.obj, .int .i64 p1.off, .int .i64 0]) rfl rfl (by kernel_rfl) (by kernel_rfl) (fun j u hj => (hh.box_at (i := 2) (cs := [.int .i64 p1.pfs, .int .i64 p1.obj, .int .i64 p1.off, .int .i64 0]) (by rfl) 0 j).trans (seg_at (n := 4) (by rfl) hj))) ?_))
            refine TI.all [0] (by kernel_rfl) rfl ⟨?_, trivial⟩
            refine TI.br rfl (W1.toR (W1.look (.agg #[.int .i64 e2.key.pfs, .int .i64 e2.key.obj, .int .i64 e2.key.off, .int .i64 e2.made, .int .i64 e2.gone, .string e2.val]) (by kernel_rfl) (fun w' hh => exec_loadN (cs := (cEPastAL e2)) rfl rfl (by kernel_rfl) (by kernel_rfl) (fun j u hj => (hh.box_at (i := 0) (cs := (cEPastAL e2)) (by rfl) 0 j).trans (seg_at (n := 6) (by rfl) hj))) ?_))
            refine TI.all [1] (by kernel_rfl) rfl ⟨?_, trivial⟩
            obtain ⟨r3, hb5, hX3⟩ := Option.bind_eq_some_iff.1 hX3
            refine TI.br rfl <| W1.toR (W1.call (vAg eSpot) r3 15 #[.agg #[.int .i64 e2.key.pfs, .int .i64 e2.key.obj, .int .i64 e2.key.off, .int .i64 e2.made, .int .i64 e2.gone, .string e2.val]] (by kernel_rfl) (fun _ => by kernel_rfl) (fun w' hh => elem_Spot_l e2 r3 hb5 w' ) ?_)
            intro u V10 hV10 hu
            obtain rfl := sureSpot _ _ _ hu
            refine TI.all [3] (by kernel_rfl) rfl ⟨?_, trivial⟩
            obtain ⟨r4, hb6, hX3⟩ := Option.bind_eq_some_iff.1 hX3
            refine TI.br rfl <| W1.toR (W1.call (vSc eInt) r4 14 #[.agg #[.int .i64 r3.key.pfs, .int .i64 r3.key.obj, .int .i64 r3.key.off, .int .i64 r3.made], .agg #[.int .i64 p1.pfs, .int .i64 p1.obj, .int .i64 p1.off, .int .i64 0]] (by kernel_rfl) (fun _ => by kernel_rfl) (fun w' hh => key_CmpSpot_l r3 (DSpot.mk p1 0) r4 hb6 w' ) ?_)
            intro u V11 hV11 hu
            obtain rfl := sureInt _ _ _ hu
            refine TI.all [4] (by kernel_rfl) rfl ⟨?_, trivial⟩
            refine TI.br rfl (W1.toR (W1.look (.bool (decide ((0 : Int) ≤ r4))) (by kernel_rfl) (fun _ _ => by kernel_rfl) ?_))
            refine TI.all [5] (by kernel_rfl) rfl ⟨?_, trivial⟩
            refine TI.br rfl (W1.toR (W1.look (.bool (decide ((0 : Int) ≤ r4))) (by kernel_rfl) (fun _ _ => by kernel_rfl) ?_))
            cases hg1 : decide ((0 : Int) ≤ r4)
            ·
             rw [hg1, cond_false] at hX3
             refine TI.all [6, 7] (by kernel_rfl) rfl ⟨?_, ?_, trivial⟩
             ·
              refine TI.no rfl (by kernel_rfl) (by kernel_rfl) ?_
              refine TI.all [7] (by kernel_rfl) rfl ⟨?_, trivial⟩
              refine TI.no rfl (by kernel_rfl) (by kernel_rfl) ?_
              refine TI.all [8] (by kernel_rfl) rfl ⟨?_, trivial⟩
              refine TI.no rfl (by kernel_rfl) (by kernel_rfl) ?_
              refine TI.all [9] (by kernel_rfl) rfl ⟨?_, trivial⟩
              refine TI.no rfl (by kernel_rfl) (by kernel_rfl) ?_
              refine TI.all [10] (by kernel_rfl) rfl ⟨?_, trivial⟩
              refine TI.br rfl (W1.toR (W1.look (.bool false) (by kernel_rfl) (fun _ _ => by kernel_rfl) ?_))
              refine TI.done (by kernel_rfl) ?_
              cases hX3
              exact fun a w' hf hh => Exists.intro 0 (Exists.intro x8 (Exists.intro x9 (Exists.intro x10 (Exists.intro x11 (Exists.intro x12 (Exists.intro x13 (And.intro rfl (Exists.intro V11 (And.intro (View.le_trans hV10 hV11) (And.intro (((((((((Fr.nil hf).pick hf 36 rfl).pick hf 22 rfl).pick hf 21 rfl).pick hf 20 rfl).pick hf 9 rfl).pick hf 6 rfl).pick hf 4 rfl).pick hf 3 rfl) (hh.sub (.cons _ (List.Sublist.refl _)))))))))))))
             ·
              refine TI.no rfl (by kernel_rfl) (by kernel_rfl) ?_
              refine TI.all [6] (by kernel_rfl) rfl ⟨?_, trivial⟩
              refine TI.no rfl (by kernel_rfl) (by kernel_rfl) ?_
              refine TI.all [8] (by kernel_rfl) rfl ⟨?_, trivial⟩
              refine TI.no rfl (by kernel_rfl) (by kernel_rfl) ?_
              refine TI.all [9] (by kernel_rfl) rfl ⟨?_, trivial⟩
              refine TI.no rfl (by kernel_rfl) (by kernel_rfl) ?_
              refine TI.all [10] (by kernel_rfl) rfl ⟨?_, trivial⟩
              refine TI.br rfl (W1.toR (W1.look (.bool false) (by kernel_rfl) (fun _ _ => by kernel_rfl) ?_))
              refine TI.done (by kernel_rfl) ?_
              cases hX3
              exact fun a w' hf hh => Exists.intro 0 (Exists.intro x8 (Exists.intro x9 (Exists.intro x10 (Exists.intro x11 (Exists.intro x12 (Exists.intro x13 (And.intro rfl (Exists.intro V11 (And.intro (View.le_trans hV10 hV11) (And.intro (((((((((Fr.nil hf).pick hf 36 rfl).pick hf 22 rfl).pick hf 21 rfl).pick hf 20 rfl).pick hf 9 rfl).pick hf 6 rfl).pick hf 4 rfl).pick hf 3 rfl) (hh.sub (.cons _ (List.Sublist.refl _)))))))))))))
            ·
             rw [hg1, cond_true] at hX3
             refine TI.all [6, 7] (by kernel_rfl) rfl ⟨?_, ?_, trivial⟩
             ·
              refine TI.br rfl (W1.toR (W1.look (.func (.yield l1) #[] #[]) (by kernel_rfl) (fun _ _ => by kernel_rfl) ?_))
              refine TI.all [7] (by kernel_rfl) rfl ⟨?_, trivial⟩
              refine TI.br rfl (W1.toR (W1.look (.agg #[.int .i64 e2.key.pfs, .int .i64 e2.key.obj, .int .i64 e2.key.off, .int .i64 e2.made, .int .i64 e2.gone, .string e2.val]) (by kernel_rfl) (fun w' hh => exec_loadN (cs := (cEPastAL e2)) rfl rfl (by kernel_rfl) (by kernel_rfl) (fun j u hj => (hh.box_at (i := 0) (cs := (cEPastAL e2)) (by rfl) 0 j).trans (seg_at (n := 6) (by rfl) hj))) ?_))
              refine TI.all [8] (by kernel_rfl) rfl ⟨?_, trivial⟩
              obtain ⟨q6, hX4, hX3⟩ := Option.bind_eq_some_iff.1 hX3
              refine TI.br rfl (W1R.yield 4 l1 (fun v w' => ∃ (k4 : Nat) (z31 : Int) (z32 : Int) (z33 : Int) (z34 : Int) (z35 : Int) (z36 : ByteArray), q6 = (k4, z31, z32, z33, z34, z35, z36) ∧ ∃ (V12 : View), View.le V11 V12 ∧ v = .bool (isz k4) ∧ Hp w V12 ((box b11 39 (cEPastAL e2)) :: (box b10 57 (cNPastAL e1 A2 c2 A3 c3 A4 c4 A5 c5)) :: (box b9 36 [.int .i64 p1.pfs, .int .i64 p1.obj, .int .i64 p1.off, .int .i64 0]) :: (box b8 24 [.int .i64 p0.root, .slice A1 p0.nodes.length c1]) :: (loopo l1 lr1 (.exit 0) [.ret] k4) :: (marko d1) :: (box b5 25 [.int .i64 0]) :: (box b4 39 [.int .i64 z31, .int .i64 z32, .int .i64 z33, .int .i64 z34, .int .i64 z35, .string z36]) :: (box b3 3 [.int .i64 p2]) :: (box b2 34 (cKPastAL p1)) :: G1) w') (by rfl) hl1 hl2 hl3 hl4 (by rfl) (by kernel_rfl) rfl (by kernel_rfl) rfl ?_ ?_)
              ·
               refine T.region ?_
               refine T.step (W1.new 39 [.int .i64 0, .int .i64 0, .int .i64 0, .int .i64 0, .int .i64 0, .string (ByteArray.mk #[])] (fun b => .pointer (some ⟨b, 0, none⟩)) (by kernel_rfl) (fun _ => by kernel_rfl) (fun b12 => ?_))
               refine T.step (W1.store 0 (cEPastAL e2) ((box b12 39 (cEPastAL e2)) :: (box b11 39 (cEPastAL e2)) :: (box b10 57 (cNPastAL e1 A2 c2 A3 c3 A4 c4 A5 c5)) :: (box b9 36 [.int .i64 p1.pfs, .int .i64 p1.obj, .int .i64 p1.off, .int .i64 0]) :: (box b8 24 [.int .i64 p0.root, .slice A1 p0.nodes.length c1]) :: (loopo l1 lr1 (.exit 0) [.ret] 0) :: (marko d1) :: (box b5 25 [.int .i64 0]) :: (box b4 39 [.int .i64 x8, .int .i64 x9, .int .i64 x10, .int .i64 x11, .int .i64 x12, .string x13]) :: (box b3 3 [.int .i64 p2]) :: (box b2 34 (cKPastAL p1)) :: G1) (by rfl) rfl (by kernel_rfl) (fun w' hw => exec_store (vs := (cEPastAL e2)) rfl rfl rfl rfl (by kernel_rfl) (one_of rfl) (by simp) rfl hw) ?_)
               refine T.nil ?_
               refine T.unthenN ?_
               refine T.begin 5 ((box b12 39 (cEPastAL e2)) :: (box b11 39 (cEPastAL e2)) :: (box b10 57 (cNPastAL e1 A2 c2 A3 c3 A4 c4 A5 c5)) :: (box b9 36 [.int .i64 p1.pfs, .int .i64 p1.obj, .int .i64 p1.off, .int .i64 0]) :: (box b8 24 [.int .i64 p0.root, .slice A1 p0.nodes.length c1]) :: (busyo l1 lr1) :: (marko d1) :: (box b5 25 [.int .i64 0]) :: (box b4 39 [.int .i64 x8, .int .i64 x9, .int .i64 x10, .int .i64 x11, .int .i64 x12, .string x13]) :: (box b3 3 [.int .i64 p2]) :: (box b2 34 (cKPastAL p1)) :: G1) (by rfl) rfl ?_
               refine T.block ?_
               refine T.seq ?_
               refine T.seq ?_
               refine T.region ?_
               refine T.pure (.pointer (some ⟨b12, 0, none⟩)) (by kernel_rfl) (fun _ => by kernel_rfl) ?_
               refine T.look (.agg #[.int .i64 e2.key.pfs, .int .i64 e2.key.obj, .int .i64 e2.key.off]) (by kernel_rfl) (fun w' hh => exec_loadN (cs := (cKPastAL e2.key)) rfl rfl (by kernel_rfl) (by kernel_rfl) (fun j u hj => (hh.box_at (i := 0) (cs := (cEPastAL e2)) (by rfl) 0 j).trans (seg_at (n := 3) (by rfl) hj))) ?_
               refine T.look (.agg #[.int .i64 p1.pfs, .int .i64 p1.obj, .int .i64 p1.off]) (by kernel_rfl) (fun w' hh => exec_loadN (cs := (cKPastAL p1)) rfl rfl (by kernel_rfl) (by kernel_rfl) (fun j u hj => (hh.box_at (i := 10) (cs := (cKPastAL p1)) (by rfl) 0 j).trans (seg_at (n := 3) (by rfl) hj))) ?_
               refine T.look (.bool (!(e2.key == p1))) (by kernel_rfl) (fun w' hh => exec_neq_DKey e2.key p1 w' rfl rfl rfl) ?_
               refine T.nil ?_
               refine T.cond (!(e2.key == p1)) (by kernel_rfl) (by kernel_rfl) (fun hc5 => ?_) (fun hc5 => ?_)
               ·
                rw [hc5, cond_true] at hX4
                refine T.exit ?_
                cases hX4
                repeat first | refine T.unthenX ?_ | refine T.unblockX rfl ?_
                exact T.roundExit (.exit 0) [.ret] 0 5 ((box b12 39 (cEPastAL e2)) :: (box b11 39 (cEPastAL e2)) :: (box b10 57 (cNPastAL e1 A2 c2 A3 c3 A4 c4 A5 c5)) :: (box b9 36 [.int .i64 p1.pfs, .int .i64 p1.obj, .int .i64 p1.off, .int .i64 0]) :: (box b8 24 [.int .i64 p0.root, .slice A1 p0.nodes.length c1]) :: (loopo l1 lr1 (.exit 0) [.ret] (0 + 1)) :: (marko d1) :: (box b5 25 [.int .i64 0]) :: (box b4 39 [.int .i64 x8, .int .i64 x9, .int .i64 x10, .int .i64 x11, .int .i64 x12, .string x13]) :: (box b3 3 [.int .i64 p2]) :: (box b2 34 (cKPastAL p1)) :: G1) (by rfl) rfl rfl (fun w' hh => ⟨_, rfl, Exists.intro (0 + 1) (Exists.intro x8 (Exists.intro x9 (Exists.intro x10 (Exists.intro x11 (Exists.intro x12 (Exists.intro x13 (And.intro rfl (Exists.intro V11 (And.intro (View.le_refl _) (And.intro rfl (hh.sub (.cons _ (List.Sublist.refl _)))))))))))))⟩)
               ·
                rw [hc5, cond_false] at hX4
                refine T.skip_code ?_
                refine T.seq ?_
                refine T.region ?_
                refine T.look (.agg #[.int .i64 e2.key.pfs, .int .i64 e2.key.obj, .int .i64 e2.key.off, .int .i64 e2.made, .int .i64 e2.gone, .string e2.val]) (by kernel_rfl) (fun w' hh => exec_loadN (cs := (cEPastAL e2)) rfl rfl (by kernel_rfl) (by kernel_rfl) (fun j u hj => (hh.box_at (i := 0) (cs := (cEPastAL e2)) (by rfl) 0 j).trans (seg_at (n := 6) (by rfl) hj))) ?_
                refine T.look (.int .i64 p2) (by kernel_rfl) (fun w' hh => exec_load1 rfl rfl (by kernel_rfl) (hh.cellBox (i := 9) (by rfl) 0)) ?_
                obtain ⟨r5, hb7, hX4⟩ := Option.bind_eq_some_iff.1 hX4
                refine T.step (W1.call (vSc eBool) r5 51 #[.agg #[.int .i64 e2.key.pfs, .int .i64 e2.key.obj, .int .i64 e2.key.off, .int .i64 e2.made, .int .i64 e2.gone, .string e2.val], .int .i64 p2] (by kernel_rfl) (fun _ => by kernel_rfl) (fun w' hh => elem_Live_l e2 p2 r5 hb7 w' ) ?_)
                intro u V13 hV13 hu
                obtain rfl := sureBool _ _ _ hu
                refine T.nil ?_
                refine T.cond r5 (by kernel_rfl) (by kernel_rfl) (fun hc6 => ?_) (fun hc6 => ?_)
                ·
                 rw [hc6, cond_true] at hX4
                 refine T.seq ?_
                 refine T.region ?_
                 refine T.look (.agg #[.int .i64 e2.key.pfs, .int .i64 e2.key.obj, .int .i64 e2.key.off, .int .i64 e2.made, .int .i64 e2.gone, .string e2.val]) (by kernel_rfl) (fun w' hh => exec_loadN (cs := (cEPastAL e2)) rfl rfl (by kernel_rfl) (by kernel_rfl) (fun j u hj => (hh.box_at (i := 0) (cs := (cEPastAL e2)) (by rfl) 0 j).trans (seg_at (n := 6) (by rfl) hj))) ?_
                 refine T.step (W1.store 8 (cEPastAL e2) ((box b12 39 (cEPastAL e2)) :: (box b11 39 (cEPastAL e2)) :: (box b10 57 (cNPastAL e1 A2 c2 A3 c3 A4 c4 A5 c5)) :: (box b9 36 [.int .i64 p1.pfs, .int .i64 p1.obj, .int .i64 p1.off, .int .i64 0]) :: (box b8 24 [.int .i64 p0.root, .slice A1 p0.nodes.length c1]) :: (busyo l1 lr1) :: (marko d1) :: (box b5 25 [.int .i64 0]) :: (box b4 39 (cEPastAL e2)) :: (box b3 3 [.int .i64 p2]) :: (box b2 34 (cKPastAL p1)) :: G1) (by rfl) rfl (by kernel_rfl) (fun w' hw => exec_store (vs := (cEPastAL e2)) rfl rfl rfl rfl (by kernel_rfl) (one_of rfl) (by simp) rfl hw) ?_)
                 refine T.step (W1.store 7 [.int .i64 0] ((box b12 39 (cEPastAL e2)) :: (box b11 39 (cEPastAL e2)) :: (box b10 57 (cNPastAL e1 A2 c2 A3 c3 A4 c4 A5 c5)) :: (box b9 36 [.int .i64 p1.pfs, .int .i64 p1.obj, .int .i64 p1.off, .int .i64 0]) :: (box b8 24 [.int .i64 p0.root, .slice A1 p0.nodes.length c1]) :: (busyo l1 lr1) :: (marko d1) :: (box b5 25 [.int .i64 0]) :: (box b4 39 (cEPastAL e2)) :: (box b3 3 [.int .i64 p2]) :: (box b2 34 (cKPastAL p1)) :: G1) (by rfl) rfl (by kernel_rfl) (fun w' hw => exec_store (vs := [.int .i64 0]) rfl rfl rfl rfl (by kernel_rfl) (one_of rfl) (by simp) rfl hw) ?_)
                 refine T.nil ?_
                 cases hX4
                 refine T.ret rfl ?_
                 repeat first | refine T.unthenR ?_ | refine T.unblockR ?_
                 exact T.roundRet (.exit 0) [.ret] 1 5 ((box b12 39 (cEPastAL e2)) :: (box b11 39 (cEPastAL e2)) :: (box b10 57 (cNPastAL e1 A2 c2 A3 c3 A4 c4 A5 c5)) :: (box b9 36 [.int .i64 p1.pfs, .int .i64 p1.obj, .int .i64 p1.off, .int .i64 0]) :: (box b8 24 [.int .i64 p0.root, .slice A1 p0.nodes.length c1]) :: (loopo l1 lr1 (.exit 0) [.ret] (1 + 1)) :: (marko d1) :: (box b5 25 [.int .i64 0]) :: (box b4 39 (cEPastAL e2)) :: (box b3 3 [.int .i64 p2]) :: (box b2 34 (cKPastAL p1)) :: G1) (by rfl) rfl rfl (fun w' hh => ⟨_, rfl, Exists.intro (1 + 1) (Exists.intro e2.key.pfs (Exists.intro e2.key.obj (Exists.intro e2.key.off (Exists.intro e2.made (Exists.intro e2.gone (Exists.intro e2.val (And.intro rfl (Exists.intro V13 (And.intro hV13 (And.intro rfl (hh.sub (.cons _ (List.Sublist.refl _)))))))))))))⟩)
                ·
                 rw [hc6, cond_false] at hX4
                 refine T.skip_code ?_
                 cases hX4
                 repeat first | refine T.unthenN ?_ | refine T.unblockN ?_
                 exact T.roundEnd (.exit 0) [.ret] 5 ((box b12 39 (cEPastAL e2)) :: (box b11 39 (cEPastAL e2)) :: (box b10 57 (cNPastAL e1 A2 c2 A3 c3 A4 c4 A5 c5)) :: (box b9 36 [.int .i64 p1.pfs, .int .i64 p1.obj, .int .i64 p1.off, .int .i64 0]) :: (box b8 24 [.int .i64 p0.root, .slice A1 p0.nodes.length c1]) :: (loopo l1 lr1 (.exit 0) [.ret] 0) :: (marko d1) :: (box b5 25 [.int .i64 0]) :: (box b4 39 [.int .i64 x8, .int .i64 x9, .int .i64 x10, .int .i64 x11, .int .i64 x12, .string x13]) :: (box b3 3 [.int .i64 p2]) :: (box b2 34 (cKPastAL p1)) :: G1) (by rfl) rfl (fun w' hh => ⟨_, rfl, Exists.intro 0 (Exists.intro x8 (Exists.intro x9 (Exists.intro x10 (Exists.intro x11 (Exists.intro x12 (Exists.intro x13 (And.intro rfl (Exists.intro V13 (And.intro hV13 (And.intro rfl (hh.sub (.cons _ (List.Sublist.refl _)))))))))))))⟩)
              ·
               rintro v w' ⟨k4, z31, z32, z33, z34, z35, z36, rfl, V12, hV12, rfl, hh⟩
               try dsimp only at hX3
               refine ⟨V12, ((box b11 39 (cEPastAL e2)) :: (box b10 57 (cNPastAL e1 A2 c2 A3 c3 A4 c4 A5 c5)) :: (box b9 36 [.int .i64 p1.pfs, .int .i64 p1.obj, .int .i64 p1.off, .int .i64 0]) :: (box b8 24 [.int .i64 p0.root, .slice A1 p0.nodes.length c1]) :: (loopo l1 lr1 (.exit 0) [.ret] k4) :: (marko d1) :: (box b5 25 [.int .i64 0]) :: (box b4 39 [.int .i64 z31, .int .i64 z32, .int .i64 z33, .int .i64 z34, .int .i64 z35, .string z36]) :: (box b3 3 [.int .i64 p2]) :: (box b2 34 (cKPastAL p1)) :: G1), hh, ?_⟩
               clear hh
               cases k4 with
               | zero =>
                rw [natCase_zero] at hX3
                refine TI.all [9] (by kernel_rfl) rfl ⟨?_, trivial⟩
                refine TI.br rfl (W1.toR (W1.look (.bool false) (by kernel_rfl) (fun _ _ => by kernel_rfl) ?_))
                refine TI.all [10] (by kernel_rfl) rfl ⟨?_, trivial⟩
                refine TI.br rfl (W1.toR (W1.look (.bool false) (by kernel_rfl) (fun _ _ => by kernel_rfl) ?_))
                refine TI.done (by kernel_rfl) ?_
                cases hX3
                exact fun a w' hf hh => Exists.intro 0 (Exists.intro z31 (Exists.intro z32 (Exists.intro z33 (Exists.intro z34 (Exists.intro z35 (Exists.intro z36 (And.intro rfl (Exists.intro V12 (And.intro (View.le_trans (View.le_trans hV10 hV11) hV12) (And.intro (((((((((Fr.nil hf).pick hf 36 rfl).pick hf 22 rfl).pick hf 21 rfl).pick hf 20 rfl).pick hf 9 rfl).pick hf 6 rfl).pick hf 4 rfl).pick hf 3 rfl) (hh.sub (.cons _ (List.Sublist.refl _)))))))))))))
               | succ k5 =>
                rw [natCase_succ] at hX3
                refine TI.all [9] (by kernel_rfl) rfl ⟨?_, trivial⟩
                refine TI.br rfl (W1.toR (W1.look (.bool true) (by kernel_rfl) (fun _ _ => by kernel_rfl) ?_))
                refine TI.all [10] (by kernel_rfl) rfl ⟨?_, trivial⟩
                refine TI.br rfl (W1.toR (W1.look (.bool true) (by kernel_rfl) (fun _ _ => by kernel_rfl) ?_))
                refine TI.done (by kernel_rfl) ?_
                cases hX3
                exact fun a w' hf hh => Exists.intro (k5 + 1) (Exists.intro z31 (Exists.intro z32 (Exists.intro z33 (Exists.intro z34 (Exists.intro z35 (Exists.intro z36 (And.intro rfl (Exists.intro V12 (And.intro (View.le_trans (View.le_trans hV10 hV11) hV12) (And.intro (((((((((Fr.nil hf).pick hf 36 rfl).pick hf 22 rfl).pick hf 21 rfl).pick hf 20 rfl).pick hf 9 rfl).pick hf 6 rfl).pick hf 4 rfl).pick hf 3 rfl) (hh.sub (.cons _ (List.Sublist.refl _)))))))))))))
             ·
              refine TI.br rfl (W1.toR (W1.look (.agg #[.int .i64 e2.key.pfs, .int .i64 e2.key.obj, .int .i64 e2.key.off, .int .i64 e2.made, .int .i64 e2.gone, .string e2.val]) (by kernel_rfl) (fun w' hh => exec_loadN (cs := (cEPastAL e2)) rfl rfl (by kernel_rfl) (by kernel_rfl) (fun j u hj => (hh.box_at (i := 0) (cs := (cEPastAL e2)) (by rfl) 0 j).trans (seg_at (n := 6) (by rfl) hj))) ?_))
              refine TI.all [6] (by kernel_rfl) rfl ⟨?_, trivial⟩
              refine TI.br rfl (W1.toR (W1.look (.func (.yield l1) #[] #[]) (by kernel_rfl) (fun _ _ => by kernel_rfl) ?_))
              refine TI.all [8] (by kernel_rfl) rfl ⟨?_, trivial⟩
              obtain ⟨q6, hX4, hX3⟩ := Option.bind_eq_some_iff.1 hX3
              refine TI.br rfl (W1R.yield 4 l1 (fun v w' => ∃ (k4 : Nat) (z31 : Int) (z32 : Int) (z33 : Int) (z34 : Int) (z35 : Int) (z36 : ByteArray), q6 = (k4, z31, z32, z33, z34, z35, z36) ∧ ∃ (V12 : View), View.le V11 V12 ∧ v = .bool (isz k4) ∧ Hp w V12 ((box b11 39 (cEPastAL e2)) :: (box b10 57 (cNPastAL e1 A2 c2 A3 c3 A4 c4 A5 c5)) :: (box b9 36 [.int .i64 p1.pfs, .int .i64 p1.obj, .int .i64 p1.off, .int .i64 0]) :: (box b8 24 [.int .i64 p0.root, .slice A1 p0.nodes.length c1]) :: (loopo l1 lr1 (.exit 0) [.ret] k4) :: (marko d1) :: (box b5 25 [.int .i64 0]) :: (box b4 39 [.int .i64 z31, .int .i64 z32, .int .i64 z33, .int .i64 z34, .int .i64 z35, .string z36]) :: (box b3 3 [.int .i64 p2]) :: (box b2 34 (cKPastAL p1)) :: G1) w') (by rfl) hl1 hl2 hl3 hl4 (by rfl) (by kernel_rfl) rfl (by kernel_rfl) rfl ?_ ?_)
              ·
               refine T.region ?_
               refine T.step (W1.new 39 [.int .i64 0, .int .i64 0, .int .i64 0, .int .i64 0, .int .i64 0, .string (ByteArray.mk #[])] (fun b => .pointer (some ⟨b, 0, none⟩)) (by kernel_rfl) (fun _ => by kernel_rfl) (fun b12 => ?_))
               refine T.step (W1.store 0 (cEPastAL e2) ((box b12 39 (cEPastAL e2)) :: (box b11 39 (cEPastAL e2)) :: (box b10 57 (cNPastAL e1 A2 c2 A3 c3 A4 c4 A5 c5)) :: (box b9 36 [.int .i64 p1.pfs, .int .i64 p1.obj, .int .i64 p1.off, .int .i64 0]) :: (box b8 24 [.int .i64 p0.root, .slice A1 p0.nodes.length c1]) :: (loopo l1 lr1 (.exit 0) [.ret] 0) :: (marko d1) :: (box b5 25 [.int .i64 0]) :: (box b4 39 [.int .i64 x8, .int .i64 x9, .int .i64 x10, .int .i64 x11, .int .i64 x12, .string x13]) :: (box b3 3 [.int .i64 p2]) :: (box b2 34 (cKPastAL p1)) :: G1) (by rfl) rfl (by kernel_rfl) (fun w' hw => exec_store (vs := (cEPastAL e2)) rfl rfl rfl rfl (by kernel_rfl) (one_of rfl) (by simp) rfl hw) ?_)
               refine T.nil ?_
               refine T.unthenN ?_
               refine T.begin 5 ((box b12 39 (cEPastAL e2)) :: (box b11 39 (cEPastAL e2)) :: (box b10 57 (cNPastAL e1 A2 c2 A3 c3 A4 c4 A5 c5)) :: (box b9 36 [.int .i64 p1.pfs, .int .i64 p1.obj, .int .i64 p1.off, .int .i64 0]) :: (box b8 24 [.int .i64 p0.root, .slice A1 p0.nodes.length c1]) :: (busyo l1 lr1) :: (marko d1) :: (box b5 25 [.int .i64 0]) :: (box b4 39 [.int .i64 x8, .int .i64 x9, .int .i64 x10, .int .i64 x11, .int .i64 x12, .string x13]) :: (box b3 3 [.int .i64 p2]) :: (box b2 34 (cKPastAL p1)) :: G1) (by rfl) rfl ?_
               refine T.block ?_
               refine T.seq ?_
               refine T.seq ?_
               refine T.region ?_
               refine T.pure (.pointer (some ⟨b12, 0, none⟩)) (by kernel_rfl) (fun _ => by kernel_rfl) ?_
               refine T.look (.agg #[.int .i64 e2.key.pfs, .int .i64 e2.key.obj, .int .i64 e2.key.off]) (by kernel_rfl) (fun w' hh => exec_loadN (cs := (cKPastAL e2.key)) rfl rfl (by kernel_rfl) (by kernel_rfl) (fun j u hj => (hh.box_at (i := 0) (cs := (cEPastAL e2)) (by rfl) 0 j).trans (seg_at (n := 3) (by rfl) hj))) ?_
               refine T.look (.agg #[.int .i64 p1.pfs, .int .i64 p1.obj, .int .i64 p1.off]) (by kernel_rfl) (fun w' hh => exec_loadN (cs := (cKPastAL p1)) rfl rfl (by kernel_rfl) (by kernel_rfl) (fun j u hj => (hh.box_at (i := 10) (cs := (cKPastAL p1)) (by rfl) 0 j).trans (seg_at (n := 3) (by rfl) hj))) ?_
               refine T.look (.bool (!(e2.key == p1))) (by kernel_rfl) (fun w' hh => exec_neq_DKey e2.key p1 w' rfl rfl rfl) ?_
               refine T.nil ?_
               refine T.cond (!(e2.key == p1)) (by kernel_rfl) (by kernel_rfl) (fun hc5 => ?_) (fun hc5 => ?_)
               ·
                rw [hc5, cond_true] at hX4
                refine T.exit ?_
                cases hX4
                repeat first | refine T.unthenX ?_ | refine T.unblockX rfl ?_
                exact T.roundExit (.exit 0) [.ret] 0 5 ((box b12 39 (cEPastAL e2)) :: (box b11 39 (cEPastAL e2)) :: (box b10 57 (cNPastAL e1 A2 c2 A3 c3 A4 c4 A5 c5)) :: (box b9 36 [.int .i64 p1.pfs, .int .i64 p1.obj, .int .i64 p1.off, .int .i64 0]) :: (box b8 24 [.int .i64 p0.root, .slice A1 p0.nodes.length c1]) :: (loopo l1 lr1 (.exit 0) [.ret] (0 + 1)) :: (marko d1) :: (box b5 25 [.int .i64 0]) :: (box b4 39 [.int .i64 x8, .int .i64 x9, .int .i64 x10, .int .i64 x11, .int .i64 x12, .string x13]) :: (box b3 3 [.int .i64 p2]) :: (box b2 34 (cKPastAL p1)) :: G1) (by rfl) rfl rfl (fun w' hh => ⟨_, rfl, Exists.intro (0 + 1) (Exists.intro x8 (Exists.intro x9 (Exists.intro x10 (Exists.intro x11 (Exists.intro x12 (Exists.intro x13 (And.intro rfl (Exists.intro V11 (And.intro (View.le_refl _) (And.intro rfl (hh.sub (.cons _ (List.Sublist.refl _)))))))))))))⟩)
               ·
                rw [hc5, cond_false] at hX4
                refine T.skip_code ?_
                refine T.seq ?_
                refine T.region ?_
                refine T.look (.agg #[.int .i64 e2.key.pfs, .int .i64 e2.key.obj, .int .i64 e2.key.off, .int .i64 e2.made, .int .i64 e2.gone, .string e2.val]) (by kernel_rfl) (fun w' hh => exec_loadN (cs := (cEPastAL e2)) rfl rfl (by kernel_rfl) (by kernel_rfl) (fun j u hj => (hh.box_at (i := 0) (cs := (cEPastAL e2)) (by rfl) 0 j).trans (seg_at (n := 6) (by rfl) hj))) ?_
                refine T.look (.int .i64 p2) (by kernel_rfl) (fun w' hh => exec_load1 rfl rfl (by kernel_rfl) (hh.cellBox (i := 9) (by rfl) 0)) ?_
                obtain ⟨r5, hb7, hX4⟩ := Option.bind_eq_some_iff.1 hX4
                refine T.step (W1.call (vSc eBool) r5 51 #[.agg #[.int .i64 e2.key.pfs, .int .i64 e2.key.obj, .int .i64 e2.key.off, .int .i64 e2.made, .int .i64 e2.gone, .string e2.val], .int .i64 p2] (by kernel_rfl) (fun _ => by kernel_rfl) (fun w' hh => elem_Live_l e2 p2 r5 hb7 w' ) ?_)
                intro u V13 hV13 hu
                obtain rfl := sureBool _ _ _ hu
                refine T.nil ?_
                refine T.cond r5 (by kernel_rfl) (by kernel_rfl) (fun hc6 => ?_) (fun hc6 => ?_)
                ·
                 rw [hc6, cond_true] at hX4
                 refine T.seq ?_
                 refine T.region ?_
                 refine T.look (.agg #[.int .i64 e2.key.pfs, .int .i64 e2.key.obj, .int .i64 e2.key.off, .int .i64 e2.made, .int .i64 e2.gone, .string e2.val]) (by kernel_rfl) (fun w' hh => exec_loadN (cs := (cEPastAL e2)) rfl rfl (by kernel_rfl) (by kernel_rfl) (fun j u hj => (hh.box_at (i := 0) (cs := (cEPastAL e2)) (by rfl) 0 j).trans (seg_at (n := 6) (by rfl) hj))) ?_
                 refine T.step (W1.store 8 (cEPastAL e2) ((box b12 39 (cEPastAL e2)) :: (box b11 39 (cEPastAL e2)) :: (box b10 57 (cNPastAL e1 A2 c2 A3 c3 A4 c4 A5 c5)) :: (box b9 36 [.int .i64 p1.pfs, .int .i64 p1.obj, .int .i64 p1.off, .int .i64 0]) :: (box b8 24 [.int .i64 p0.root, .slice A1 p0.nodes.length c1]) :: (busyo l1 lr1) :: (marko d1) :: (box b5 25 [.int .i64 0]) :: (box b4 39 (cEPastAL e2)) :: (box b3 3 [.int .i64 p2]) :: (box b2 34 (cKPastAL p1)) :: G1) (by rfl) rfl (by kernel_rfl) (fun w' hw => exec_store (vs := (cEPastAL e2)) rfl rfl rfl rfl (by kernel_rfl) (one_of rfl) (by simp) rfl hw) ?_)
                 refine T.step (W1.store 7 [.int .i64 0] ((box b12 39 (cEPastAL e2)) :: (box b11 39 (cEPastAL e2)) :: (box b10 57 (cNPastAL e1 A2 c2 A3 c3 A4 c4 A5 c5)) :: (box b9 36 [.int .i64 p1.pfs, .int .i64 p1.obj, .int .i64 p1.off, .int .i64 0]) :: (box b8 24 [.int .i64 p0.root, .slice A1 p0.nodes.length c1]) :: (busyo l1 lr1) :: (marko d1) :: (box b5 25 [.int .i64 0]) :: (box b4 39 (cEPastAL e2)) :: (box b3 3 [.int .i64 p2]) :: (box b2 34 (cKPastAL p1)) :: G1) (by rfl) rfl (by kernel_rfl) (fun w' hw => exec_store (vs := [.int .i64 0]) rfl rfl rfl rfl (by kernel_rfl) (one_of rfl) (by simp) rfl hw) ?_)
                 refine T.nil ?_
                 cases hX4
                 refine T.ret rfl ?_
                 repeat first | refine T.unthenR ?_ | refine T.unblockR ?_
                 exact T.roundRet (.exit 0) [.ret] 1 5 ((box b12 39 (cEPastAL e2)) :: (box b11 39 (cEPastAL e2)) :: (box b10 57 (cNPastAL e1 A2 c2 A3 c3 A4 c4 A5 c5)) :: (box b9 36 [.int .i64 p1.pfs, .int .i64 p1.obj, .int .i64 p1.off, .int .i64 0]) :: (box b8 24 [.int .i64 p0.root, .slice A1 p0.nodes.length c1]) :: (loopo l1 lr1 (.exit 0) [.ret] (1 + 1)) :: (marko d1) :: (box b5 25 [.int .i64 0]) :: (box b4 39 (cEPastAL e2)) :: (box b3 3 [.int .i64 p2]) :: (box b2 34 (cKPastAL p1)) :: G1) (by rfl) rfl rfl (fun w' hh => ⟨_, rfl, Exists.intro (1 + 1) (Exists.intro e2.key.pfs (Exists.intro e2.key.obj (Exists.intro e2.key.off (Exists.intro e2.made (Exists.intro e2.gone (Exists.intro e2.val (And.intro rfl (Exists.intro V13 (And.intro hV13 (And.intro rfl (hh.sub (.cons _ (List.Sublist.refl _)))))))))))))⟩)
                ·
                 rw [hc6, cond_false] at hX4
                 refine T.skip_code ?_
                 cases hX4
                 repeat first | refine T.unthenN ?_ | refine T.unblockN ?_
                 exact T.roundEnd (.exit 0) [.ret] 5 ((box b12 39 (cEPastAL e2)) :: (box b11 39 (cEPastAL e2)) :: (box b10 57 (cNPastAL e1 A2 c2 A3 c3 A4 c4 A5 c5)) :: (box b9 36 [.int .i64 p1.pfs, .int .i64 p1.obj, .int .i64 p1.off, .int .i64 0]) :: (box b8 24 [.int .i64 p0.root, .slice A1 p0.nodes.length c1]) :: (loopo l1 lr1 (.exit 0) [.ret] 0) :: (marko d1) :: (box b5 25 [.int .i64 0]) :: (box b4 39 [.int .i64 x8, .int .i64 x9, .int .i64 x10, .int .i64 x11, .int .i64 x12, .string x13]) :: (box b3 3 [.int .i64 p2]) :: (box b2 34 (cKPastAL p1)) :: G1) (by rfl) rfl (fun w' hh => ⟨_, rfl, Exists.intro 0 (Exists.intro x8 (Exists.intro x9 (Exists.intro x10 (Exists.intro x11 (Exists.intro x12 (Exists.intro x13 (And.intro rfl (Exists.intro V13 (And.intro hV13 (And.intro rfl (hh.sub (.cons _ (List.Sublist.refl _)))))))))))))⟩)
              ·
               rintro v w' ⟨k4, z31, z32, z33, z34, z35, z36, rfl, V12, hV12, rfl, hh⟩
               try dsimp only at hX3
               refine ⟨V12, ((box b11 39 (cEPastAL e2)) :: (box b10 57 (cNPastAL e1 A2 c2 A3 c3 A4 c4 A5 c5)) :: (box b9 36 [.int .i64 p1.pfs, .int .i64 p1.obj, .int .i64 p1.off, .int .i64 0]) :: (box b8 24 [.int .i64 p0.root, .slice A1 p0.nodes.length c1]) :: (loopo l1 lr1 (.exit 0) [.ret] k4) :: (marko d1) :: (box b5 25 [.int .i64 0]) :: (box b4 39 [.int .i64 z31, .int .i64 z32, .int .i64 z33, .int .i64 z34, .int .i64 z35, .string z36]) :: (box b3 3 [.int .i64 p2]) :: (box b2 34 (cKPastAL p1)) :: G1), hh, ?_⟩
               clear hh
               cases k4 with
               | zero =>
                rw [natCase_zero] at hX3
                refine TI.all [9] (by kernel_rfl) rfl ⟨?_, trivial⟩
                refine TI.br rfl (W1.toR (W1.look (.bool false) (by kernel_rfl) (fun _ _ => by kernel_rfl) ?_))
                refine TI.all [10] (by kernel_rfl) rfl ⟨?_, trivial⟩
                refine TI.br rfl (W1.toR (W1.look (.bool false) (by kernel_rfl) (fun _ _ => by kernel_rfl) ?_))
                refine TI.done (by kernel_rfl) ?_
                cases hX3
                exact fun a w' hf hh => Exists.intro 0 (Exists.intro z31 (Exists.intro z32 (Exists.intro z33 (Exists.intro z34 (Exists.intro z35 (Exists.intro z36 (And.intro rfl (Exists.intro V12 (And.intro (View.le_trans (View.le_trans hV10 hV11) hV12) (And.intro (((((((((Fr.nil hf).pick hf 36 rfl).pick hf 22 rfl).pick hf 21 rfl).pick hf 20 rfl).pick hf 9 rfl).pick hf 6 rfl).pick hf 4 rfl).pick hf 3 rfl) (hh.sub (.cons _ (List.Sublist.refl _)))))))))))))
               | succ k5 =>
                rw [natCase_succ] at hX3
                refine TI.all [9] (by kernel_rfl) rfl ⟨?_, trivial⟩
                refine TI.br rfl (W1.toR (W1.look (.bool true) (by kernel_rfl) (fun _ _ => by kernel_rfl) ?_))
                refine TI.all [10] (by kernel_rfl) rfl ⟨?_, trivial⟩
                refine TI.br rfl (W1.toR (W1.look (.bool true) (by kernel_rfl) (fun _ _ => by kernel_rfl) ?_))
                refine TI.done (by kernel_rfl) ?_
                cases hX3
                exact fun a w' hf hh => Exists.intro (k5 + 1) (Exists.intro z31 (Exists.intro z32 (Exists.intro z33 (Exists.intro z34 (Exists.intro z35 (Exists.intro z36 (And.intro rfl (Exists.intro V12 (And.intro (View.le_trans (View.le_trans hV10 hV11) hV12) (And.intro (((((((((Fr.nil hf).pick hf 36 rfl).pick hf 22 rfl).pick hf 21 rfl).pick hf 20 rfl).pick hf 9 rfl).pick hf 6 rfl).pick hf 4 rfl).pick hf 3 rfl) (hh.sub (.cons _ (List.Sublist.refl _)))))))))))))
          ·
           rintro a w' ⟨k3, z25, z26, z27, z28, z29, z30, rfl, V9, hV9, hf, hh⟩
           try dsimp only at hY1
           refine (?_ : T 59 w V9 ((box b10 57 (cNPastAL e1 A2 c2 A3 c3 A4 c4 A5 c5)) :: (box b9 36 [.int .i64 p1.pfs, .int .i64 p1.obj, .int .i64 p1.off, .int .i64 0]) :: (box b8 24 [.int .i64 p0.root, .slice A1 p0.nodes.length c1]) :: (loopo l1 lr1 (.exit 0) [.ret] k3) :: (marko d1) :: (box b5 25 [.int .i64 0]) :: (box b4 39 [.int .i64 z25, .int .i64 z26, .int .i64 z27, .int .i64 z28, .int .i64 z29, .string z30]) :: (box b3 3 [.int .i64 p2]) :: (box b2 34 (cKPastAL p1)) :: G1) [(3, .func (.yield l1) #[] #[]), (4, .pointer (some ⟨b8, 0, none⟩)), (6, .pointer (some ⟨b9, 0, none⟩)), (9, .pointer (some ⟨b10, 0, none⟩)), (20, .slice A2 e1.elems.length c2), (21, .int .i64 (e1.elems.length : Int)), (22, .int .i64 x14), (36, .bool (!(isz k3)))] _) a w' hf hh
           clear hf hh
           cases k3 with
           | zero =>
            rw [natCase_zero] at hY1
            refine T.cond false (by kernel_rfl) (by kernel_rfl) (fun h => Bool.noConfusion h) (fun _ => ?_)
            refine T.skip_code ?_
            refine T.region ?_
            refine T.pure (.int .i64 (IntKind.i64.wrap (x14 + 1))) (by kernel_rfl) (fun _ => by kernel_rfl) ?_
            refine T.pure (.int .i64 (IntKind.i64.wrap (x14 + 1))) (by kernel_rfl) (fun _ => by kernel_rfl) ?_
            refine T.nil ?_
            cases hY1
            exact fun a w' hf hh => Exists.intro (z25, z26, z27, z28, z29, z30, IntKind.i64.wrap (x14 + 1)) (And.intro rfl (Exists.intro z25 (Exists.intro z26 (Exists.intro z27 (Exists.intro z28 (Exists.intro z29 (Exists.intro z30 (Exists.intro (IntKind.i64.wrap (x14 + 1)) (And.intro rfl (Exists.intro V9 (And.intro (View.le_trans hV7 hV9) (And.intro ((((((((Fr.nil hf).pick hf 22 rfl).pick hf 21 rfl).pick hf 20 rfl).pick hf 9 rfl).pick hf 6 rfl).pick hf 4 rfl).pick hf 3 rfl) (hh.sub (List.Sublist.refl _))))))))))))))
           | succ k6 =>
            rw [natCase_succ] at hY1
            refine T.cond true (by kernel_rfl) (by kernel_rfl) (fun _ => ?_) (fun h => Bool.noConfusion h)
            refine T.seq ?_
            refine T.region ?_
            refine T.pure (.bool false) (by kernel_rfl) (fun _ => by kernel_rfl) ?_
            refine T.nil ?_
            cases hY1
            cases (hr2 _ rfl)
            try dsimp only at hS1
            have hres := Option.some.inj hS1
            subst hres
            refine T.ret rfl ?_
            repeat first | refine T.unthen ?_ | refine T.unblock ?_
            exact T.ret1 rfl (ResIs.tmp rfl) fun w' hh => ⟨_, rfl, Exists.intro (k6 + 1) (Exists.intro z25 (Exists.intro z26 (Exists.intro z27 (Exists.intro z28 (Exists.intro z29 (Exists.intro z30 (And.intro rfl (Exists.intro V9 (And.intro (View.le_trans hV7 hV9) (And.intro rfl (hh.sub (.cons _ (.cons _ (.cons _ (List.Sublist.refl _)))))))))))))))⟩
         ·
          rw [hc4, cond_false] at hY1
          refine T.exit ?_
          cases hY1
          cases (hr2 _ rfl)
          exact fun a w' hf hh => Exists.intro x8 (Exists.intro x9 (Exists.intro x10 (Exists.intro x11 (Exists.intro x12 (Exists.intro x13 (And.intro rfl (Exists.intro V7 (And.intro hV7 (And.intro (((((Fr.nil hf).pick hf 9 rfl).pick hf 6 rfl).pick hf 4 rfl).pick hf 3 rfl) (hh.sub (List.Sublist.refl _)))))))))))
       ·
        rintro a w' ⟨z19, z20, z21, z22, z23, z24, rfl, V8, hV8, hf, hh⟩
        try dsimp only at hS1
        refine (?_ : T 59 w V8 ((box b10 57 (cNPastAL e1 A2 c2 A3 c3 A4 c4 A5 c5)) :: (box b9 36 [.int .i64 p1.pfs, .int .i64 p1.obj, .int .i64 p1.off, .int .i64 0]) :: (box b8 24 [.int .i64 p0.root, .slice A1 p0.nodes.length c1]) :: (loopo l1 lr1 (.exit 0) [.ret] 0) :: (marko d1) :: (box b5 25 [.int .i64 0]) :: (box b4 39 [.int .i64 z19, .int .i64 z20, .int .i64 z21, .int .i64 z22, .int .i64 z23, .string z24]) :: (box b3 3 [.int .i64 p2]) :: (box b2 34 (cKPastAL p1)) :: G1) [(3, .func (.yield l1) #[] #[]), (4, .pointer (some ⟨b8, 0, none⟩)), (6, .pointer (some ⟨b9, 0, none⟩)), (9, .pointer (some ⟨b10, 0, none⟩))] _) a w' hf hh
        clear hf hh
        refine T.seq ?_
        refine T.seq ?_
        refine T.region ?_
        refine T.pure (.pointer (some ⟨b10, 0, none⟩)) (by kernel_rfl) (fun _ => by kernel_rfl) ?_
        refine T.look (.int .i64 e1.kind) (by kernel_rfl) (fun w' hh => exec_load1 rfl rfl (by kernel_rfl) (hh.cellBox (i := 0) (by rfl) 0)) ?_
        refine T.pure (.bool (e1.kind == 1)) (by kernel_rfl) (fun _ => by kernel_rfl) ?_
        refine T.nil ?_
        refine T.cond (e1.kind == 1) (by kernel_rfl) (by kernel_rfl) (fun hc7 => ?_) (fun hc7 => ?_)
        ·
         rw [hc7, cond_true] at hS1
         refine T.seq ?_
         refine T.region ?_
         refine T.pure (.bool true) (by kernel_rfl) (fun _ => by kernel_rfl) ?_
         refine T.nil ?_
         have hres := Option.some.inj hS1
         subst hres
         refine T.ret rfl ?_
         repeat first | refine T.unthen ?_ | refine T.unblock ?_
         exact T.ret1 rfl (ResIs.tmp rfl) fun w' hh => ⟨_, rfl, Exists.intro 0 (Exists.intro z19 (Exists.intro z20 (Exists.intro z21 (Exists.intro z22 (Exists.intro z23 (Exists.intro z24 (And.intro rfl (Exists.intro V8 (And.intro hV8 (And.intro rfl (hh.sub (.cons _ (.cons _ (.cons _ (List.Sublist.refl _)))))))))))))))⟩
        ·
         rw [hc7, cond_false] at hS1
         refine T.skip_code ?_
         refine T.seq ?_
         refine T.seq ?_
         refine T.quiet (by kernel_rfl) (by kernel_rfl) ?_
         refine TQ.pure (.pointer (some ⟨b10, 2, none⟩)) (by kernel_rfl) (fun _ => by kernel_rfl) ?_
         refine TQ.look (.slice A3 e1.kids.length c3) (by kernel_rfl) (fun w' hh => exec_load1 rfl rfl (by kernel_rfl) (hh.cellBox (i := 0) (by rfl) 2)) ?_
         refine TQ.look (.agg #[.int .i64 e1.kind, .slice A2 e1.elems.length c2, .slice A3 e1.kids.length c3, .slice A4 e1.seps.length c4, .slice A5 e1.tids.length c5]) (by kernel_rfl) (fun w' hh => exec_loadN (cs := (cNPastAL e1 A2 c2 A3 c3 A4 c4 A5 c5)) rfl rfl (by kernel_rfl) (by kernel_rfl) (fun j u hj => (hh.box_at (i := 0) (cs := (cNPastAL e1 A2 c2 A3 c3 A4 c4 A5 c5)) (by rfl) 0 j).trans (seg_at (n := 5) (by rfl) hj))) ?_
         refine TQ.look (.agg #[.int .i64 p1.pfs, .int .i64 p1.obj, .int .i64 p1.off, .int .i64 0]) (by kernel_rfl) (fun w' hh => exec_loadN (cs := [.int .i64 p1.pfs, .int .i64 p1.obj, .int .i64 p1.off, .int .i64 0]) rfl rfl (by kernel_rfl) (by kernel_rfl) (fun j u hj => (hh.box_at (i := 1) (cs := [.int .i64 p1.pfs, .int .i64 p1.obj, .int .i64 p1.off, .int .i64 0]) (by rfl) 0 j).trans (seg_at (n := 4) (by rfl) hj))) ?_
         obtain ⟨r6, hb8, hS1⟩ := Option.bind_eq_some_iff.1 hS1
         refine TQ.call (vSc eInt) r6 61 #[.agg #[.int .i64 e1.kind, .slice A2 e1.elems.length c2, .slice A3 e1.kids.length c3, .slice A4 e1.seps.length c4, .slice A5 e1.tids.length c5], .agg #[.int .i64 p1.pfs, .int .i64 p1.obj, .int .i64 p1.off, .int .i64 0]] (.int .i64 r6) (fun V u hu => sureInt V u _ hu) (by kernel_rfl) (fun _ => by kernel_rfl) (fun w' hh => node_Way_l F e1 (DSpot.mk p1 0) r6 hb8 w' A2 c2 (SlOk.mono (SlOk.mono hs2 hV8) hh.view) A3 c3 (SlOk.mono (SlOk.mono hs3 hV8) hh.view) A4 c4 (SlOk.mono (SlOk.mono hs4 hV8) hh.view) A5 c5 (SlOk.mono (SlOk.mono hs5 hV8) hh.view)) ?_
         obtain ⟨s2, hb9, hS1⟩ := Option.bind_eq_some_iff.1 hS1
         refine TQ.look (.slice (cutA A3 c3 r6.toNat 1) s2.length (c3 - r6.toNat)) (by kernel_rfl) (fun w' hh => exec_slice_list (e := 3) (s := 1) (lx := (some _)) (hx := none) (k := .i64) (k' := .i64) rfl rfl (by kernel_rfl) (by kernel_rfl) ((SlOk.mono hs3 hV8)).1 rfl rfl hb9) ?_
         refine TQ.pure (.int .i64 (s2.length : Int)) (by kernel_rfl) (fun _ => by kernel_rfl) ?_
         refine TQ.pure (.int .i64 0) (by kernel_rfl) (fun _ => by kernel_rfl) ?_
         refine TQ.nil ?_
         obtain ⟨q7, hz3, hS1⟩ := Option.bind_eq_some_iff.1 hS1
         refine T.mid (fun a w' => ∃ (z37 : Int) (z38 : Int) (z39 : Int) (z40 : Int) (z41 : Int) (z42 : ByteArray), q7 = Sum.inl (z37, z38, z39, z40, z41, z42) ∧ ∃ (V15 : View), View.le V8 V15 ∧ Fr 59 [] a ∧ Hp w V15 ((loopo l1 lr1 (.exit 0) [.ret] 0) :: (marko d1) :: (box b5 25 [.int .i64 0]) :: (box b4 39 [.int .i64 z37, .int .i64 z38, .int .i64 z39, .int .i64 z40, .int .i64 z41, .string z42]) :: (box b3 3 [.int .i64 p2]) :: (box b2 34 (cKPastAL p1)) :: G1) w') ?_ ?_
         ·
          refine T.block ?_
          refine T.iter (fun s3 a w' => ∃ (x15 : Int) (x16 : Int) (x17 : Int) (x18 : Int) (x19 : Int) (x20 : ByteArray) (x21 : Int), s3 = (x15, x16, x17, x18, x19, x20, x21) ∧ ∃ (A6 : Option Addr) (c6 : Nat) (V14 : View), View.le V8 V14 ∧ SlOk V14 eInt A6 c6 s2 ∧ Fr 59 [(3, .func (.yield l1) #[] #[]), (4, .pointer (some ⟨b8, 0, none⟩)), (6, .pointer (some ⟨b9, 0, none⟩)), (46, .slice A6 s2.length c6), (47, .int .i64 (s2.length : Int)), (48, .int .i64 x21)] a ∧ Hp w V14 ((box b9 36 [.int .i64 p1.pfs, .int .i64 p1.obj, .int .i64 p1.off, .int .i64 0]) :: (box b8 24 [.int .i64 p0.root, .slice A1 p0.nodes.length c1]) :: (loopo l1 lr1 (.exit 0) [.ret] 0) :: (marko d1) :: (box b5 25 [.int .i64 0]) :: (box b4 39 [.int .i64 x15, .int .i64 x16, .int .i64 x17, .int .i64 x18, .int .i64 x19, .string x20]) :: (box b3 3 [.int .i64 p2]) :: (box b2 34 (cKPastAL p1)) :: G1) w') hz3 ?_ ?_
          ·
           exact fun a w' hf hh => Exists.intro z19 (Exists.intro z20 (Exists.intro z21 (Exists.intro z22 (Exists.intro z23 (Exists.intro z24 (Exists.intro 0 (And.intro rfl (Exists.intro (cutA A3 c3 r6.toNat 1) (Exists.intro (c3 - r6.toNat) (Exists.intro V8 (And.intro (View.le_refl _) (And.intro (SlOk.cut (SlOk.mono hs3 hV8) hb9) (And.intro (((((((Fr.nil hf).pick hf 48 rfl).pick hf 47 rfl).pick hf 46 rfl).pick hf 6 rfl).pick hf 4 rfl).pick hf 3 rfl) (hh.sub (.cons _ (List.Sublist.refl _))))))))))))))))
          ·
           rintro s3 y2 hY2 hr3 a w' ⟨x15, x16, x17, x18, x19, x20, x21, rfl, A6, c6, V14, hV14, hs6, hf, hh⟩
           refine (?_ : T 59 w V14 ((box b9 36 [.int .i64 p1.pfs, .int .i64 p1.obj, .int .i64 p1.off, .int .i64 0]) :: (box b8 24 [.int .i64 p0.root, .slice A1 p0.nodes.length c1]) :: (loopo l1 lr1 (.exit 0) [.ret] 0) :: (marko d1) :: (box b5 25 [.int .i64 0]) :: (box b4 39 [.int .i64 x15, .int .i64 x16, .int .i64 x17, .int .i64 x18, .int .i64 x19, .string x20]) :: (box b3 3 [.int .i64 p2]) :: (box b2 34 (cKPastAL p1)) :: G1) [(3, .func (.yield l1) #[] #[]), (4, .pointer (some ⟨b8, 0, none⟩)), (6, .pointer (some ⟨b9, 0, none⟩)), (46, .slice A6 s2.length c6), (47, .int .i64 (s2.length : Int)), (48, .int .i64 x21)] _) a w' hf hh
           clear hf hh
           try dsimp only at hY2
           refine T.seq ?_
           refine T.region ?_
           refine T.pure (.bool (decide (x21 < (s2.length : Int)))) (by kernel_rfl) (fun _ => by kernel_rfl) ?_
           refine T.nil ?_
           refine T.seq ?_
           refine T.cond (decide (x21 < (s2.length : Int))) (by kernel_rfl) (by kernel_rfl) (fun hc8 => ?_) (fun hc8 => ?_)
           ·
            rw [hc8, cond_true] at hY2
            refine T.skip_code ?_
            refine T.seq ?_
            refine T.block ?_
            refine T.seq ?_
            refine T.region ?_
            obtain ⟨e3, hb10, hY2⟩ := Option.bind_eq_some_iff.1 hY2
            obtain ⟨hi7, hi8, hi9⟩ := idx_some hb10
            refine T.look (.pointer (some ((sadr A6).add (x21.toNat * 1)))) (by kernel_rfl) (fun w' hh => exec_indexAddr (e := 3) (s := 1) rfl rfl rfl (by kernel_rfl) (by kernel_rfl) hi7 hi8 (hs6.some_ hi9 (by decide))) ?_
            refine T.look (.int .i64 e3) (by kernel_rfl) (fun w' hh => exec_load1 rfl rfl (by kernel_rfl) (hh.cell_view (SlOk.cellF0 (E := eInt) hs6 hi9 (fun _ _ _ h => h) rfl))) ?_
            refine T.pure (.int .i64 e3) (by kernel_rfl) (fun _ => by kernel_rfl) ?_
            refine T.nil ?_
            obtain ⟨q8, hX5, hY2⟩ := Option.bind_eq_some_iff.1 hY2
            refine T.cut (fun a w' => ∃ (k7 : Nat) (z43 : Int) (z44 : Int) (z45 : Int) (z46 : Int) (z47 : Int) (z48 : ByteArray), q8 = (k7, z43, z44, z45, z46, z47, z48) ∧ ∃ (V16 : View), View.le V14 V16 ∧ Fr 59 [(3, .func (.yield l1) #[] #[]), (4, .pointer (some ⟨b8, 0, none⟩)), (6, .pointer (some ⟨b9, 0, none⟩)), (46, .slice A6 s2.length c6), (47, .int .i64 (s2.length : Int)), (48, .int .i64 x21), (57, .bool (!(isz k7)))] a ∧ Hp w V16 ((box b9 36 [.int .i64 p1.pfs, .int .i64 p1.obj, .int .i64 p1.off, .int .i64 0]) :: (box b8 24 [.int .i64 p0.root, .slice A1 p0.nodes.length c1]) :: (loopo l1 lr1 (.exit 0) [.ret] k7) :: (marko d1) :: (box b5 25 [.int .i64 0]) :: (box b4 39 [.int .i64 z43, .int .i64 z44, .int .i64 z45, .int .i64 z46, .int .i64 z47, .string z48]) :: (box b3 3 [.int .i64 p2]) :: (box b2 34 (cKPastAL p1)) :: G1) w') ?_ ?_
            ·
             refine T.region ?_
             refine T.look (.agg #[.int .i64 p0.root, .slice A1 p0.nodes.length c1]) (by kernel_rfl) (fun w' hh => exec_loadN (cs := [.int .i64 p0.root, .slice A1 p0.nodes.length c1]) rfl rfl (by kernel_rfl) (by kernel_rfl) (fun j u hj => (hh.box_at (i := 1) (cs := [.int .i64 p0.root, .slice A1 p0.nodes.length c1]) (by rfl) 0 j).trans (seg_at (n := 2) (by rfl) hj))) ?_
             refine T.pure (.int .i64 e3) (by kernel_rfl) (fun _ => by kernel_rfl) ?_
             refine T.look (.agg #[.int .i64 p1.pfs, .int .i64 p1.obj, .int .i64 p1.off, .int .i64 0]) (by kernel_rfl) (fun w' hh => exec_loadN (cs := [.int .i64 p1.pfs, .int .i64 p1.obj, .int .i64 p1.off, .int .i64 0]) rfl rfl (by kernel_rfl) (by kernel_rfl) (fun j u hj => (hh.box_at (i := 0) (cs := [.int .i64 p1.pfs, .int .i64 p1.obj, .int .i64 p1.off, .int .i64 0]) (by rfl) 0 j).trans (seg_at (n := 4) (by rfl) hj))) ?_
             refine T.pure (.func (.yield l1) #[] #[]) (by kernel_rfl) (fun _ => by kernel_rfl) ?_
             obtain ⟨q9, hz4, hX5⟩ := Option.bind_eq_some_iff.1 hX5
             refine T.step (W1.callI 57 [.agg #[.int .i64 p0.root, .slice A1 p0.nodes.length c1], .int .i64 e3, .agg #[.int .i64 p1.pfs, .int .i64 p1.obj, .int .i64 p1.off, .int .i64 0], .func (.yield l1) #[] #[]] (fun v w' => ∃ (z49 : Nat) (z50 : Int) (z51 : Int) (z52 : Int) (z53 : Int) (z54 : Int) (z55 : ByteArray), q9 = (z49, z50, z51, z52, z53, z54, z55) ∧ ∃ (V17 : View), View.le V14 V17 ∧ v = .bool (isz z49) ∧ Hp w V17 ((loopo l1 lr1 (.exit 0) [.ret] z49) :: (marko d1) :: (box b5 25 [.int .i64 0]) :: (box b4 39 [.int .i64 z50, .int .i64 z51, .int .i64 z52, .int .i64 z53, .int .i64 z54, .string z55]) :: (box b3 3 [.int .i64 p2]) :: (box b2 34 (cKPastAL p1)) :: (box b9 36 [.int .i64 p1.pfs, .int .i64 p1.obj, .int .i64 p1.off, .int .i64 0]) :: (box b8 24 [.int .i64 p0.root, .slice A1 p0.nodes.length c1]) :: G1) w') (by kernel_rfl) (fun _ => by kernel_rfl) (fun w' hh => ih1 _ _ hz4 x15 x16 x17 x18 x19 x20 e3 rfl V14 ((box b9 36 [.int .i64 p1.pfs, .int .i64 p1.obj, .int .i64 p1.off, .int .i64 0]) :: (box b8 24 [.int .i64 p0.root, .slice A1 p0.nodes.length c1]) :: G1) w' (View.le_trans (View.le_trans hV5 hV8) hV14) ((hh.sub (List.Sublist.refl _)).perm (List.Perm.trans (List.Perm.cons _ (List.Perm.swap _ _ _)) (List.Perm.trans (List.Perm.swap _ _ _) (List.Perm.cons _ (List.Perm.trans (List.Perm.cons _ (List.Perm.swap _ _ _)) (List.Perm.trans (List.Perm.swap _ _ _) (List.Perm.cons _ (List.Perm.trans (List.Perm.cons _ (List.Perm.swap _ _ _)) (List.Perm.trans (List.Perm.swap _ _ _) (List.Perm.cons _ (List.Perm.trans (List.Perm.cons _ (List.Perm.swap _ _ _)) (List.Perm.trans (List.Perm.swap _ _ _) (List.Perm.cons _ (List.Perm.trans (List.Perm.cons _ (List.Perm.swap _ _ _)) (List.Perm.trans (List.Perm.swap _ _ _) (List.Perm.cons _ (List.Perm.trans (List.Perm.cons _ (List.Perm.swap _ _ _)) (List.Perm.trans (List.Perm.swap _ _ _) (List.Perm.refl _)))))))))))))))))))) ?_)
             rintro v w' ⟨z49, z50, z51, z52, z53, z54, z55, rfl, V17, hV17, rfl, hh⟩
             try dsimp only at hX5
             refine ⟨V17, ((box b9 36 [.int .i64 p1.pfs, .int .i64 p1.obj, .int .i64 p1.off, .int .i64 0]) :: (box b8 24 [.int .i64 p0.root, .slice A1 p0.nodes.length c1]) :: (loopo l1 lr1 (.exit 0) [.ret] z49) :: (marko d1) :: (box b5 25 [.int .i64 0]) :: (box b4 39 [.int .i64 z50, .int .i64 z51, .int .i64 z52, .int .i64 z53, .int .i64 z54, .string z55]) :: (box b3 3 [.int .i64 p2]) :: (box b2 34 (cKPastAL p1)) :: G1), (hh.sub (List.Sublist.refl _)).perm (List.Perm.trans (List.Perm.cons _ (List.Perm.cons _ (List.Perm.cons _ (List.Perm.cons _ (List.Perm.cons _ (List.Perm.swap _ _ _)))))) (List.Perm.trans (List.Perm.cons _ (List.Perm.cons _ (List.Perm.cons _ (List.Perm.cons _ (List.Perm.swap _ _ _))))) (List.Perm.trans (List.Perm.cons _ (List.Perm.cons _ (List.Perm.cons _ (List.Perm.swap _ _ _)))) (List.Perm.trans (List.Perm.cons _ (List.Perm.cons _ (List.Perm.swap _ _ _))) (List.Perm.trans (List.Perm.cons _ (List.Perm.swap _ _ _)) (List.Perm.trans (List.Perm.swap _ _ _) (List.Perm.cons _ (List.Perm.trans (List.Perm.cons _ (List.Perm.cons _ (List.Perm.cons _ (List.Perm.cons _ (List.Perm.cons _ (List.Perm.swap _ _ _)))))) (List.Perm.trans (List.Perm.cons _ (List.Perm.cons _ (List.Perm.cons _ (List.Perm.cons _ (List.Perm.swap _ _ _))))) (List.Perm.trans (List.Perm.cons _ (List.Perm.cons _ (List.Perm.cons _ (List.Perm.swap _ _ _)))) (List.Perm.trans (List.Perm.cons _ (List.Perm.cons _ (List.Perm.swap _ _ _))) (List.Perm.trans (List.Perm.cons _ (List.Perm.swap _ _ _)) (List.Perm.trans (List.Perm.swap _ _ _) (List.Perm.refl _)))))))))))))), ?_⟩
             clear hh
             cases z49 with
             | zero =>
              rw [natCase_zero] at hX5
              refine T.pure (.bool false) (by kernel_rfl) (fun _ => by kernel_rfl) ?_
              refine T.nil ?_
              cases hX5
              exact fun a w' hf hh => Exists.intro 0 (Exists.intro z50 (Exists.intro z51 (Exists.intro z52 (Exists.intro z53 (Exists.intro z54 (Exists.intro z55 (And.intro rfl (Exists.intro V17 (And.intro hV17 (And.intro ((((((((Fr.nil hf).pick hf 57 rfl).pick hf 48 rfl).pick hf 47 rfl).pick hf 46 rfl).pick hf 6 rfl).pick hf 4 rfl).pick hf 3 rfl) (hh.sub (List.Sublist.refl _))))))))))))
             | succ k8 =>
              rw [natCase_succ] at hX5
              refine T.pure (.bool true) (by kernel_rfl) (fun _ => by kernel_rfl) ?_
              refine T.nil ?_
              cases hX5
              exact fun a w' hf hh => Exists.intro (k8 + 1) (Exists.intro z50 (Exists.intro z51 (Exists.intro z52 (Exists.intro z53 (Exists.intro z54 (Exists.intro z55 (And.intro rfl (Exists.intro V17 (And.intro hV17 (And.intro ((((((((Fr.nil hf).pick hf 57 rfl).pick hf 48 rfl).pick hf 47 rfl).pick hf 46 rfl).pick hf 6 rfl).pick hf 4 rfl).pick hf 3 rfl) (hh.sub (List.Sublist.refl _))))))))))))
            ·
             rintro a w' ⟨k7, z43, z44, z45, z46, z47, z48, rfl, V16, hV16, hf, hh⟩
             try dsimp only at hY2
             refine (?_ : T 59 w V16 ((box b9 36 [.int .i64 p1.pfs, .int .i64 p1.obj, .int .i64 p1.off, .int .i64 0]) :: (box b8 24 [.int .i64 p0.root, .slice A1 p0.nodes.length c1]) :: (loopo l1 lr1 (.exit 0) [.ret] k7) :: (marko d1) :: (box b5 25 [.int .i64 0]) :: (box b4 39 [.int .i64 z43, .int .i64 z44, .int .i64 z45, .int .i64 z46, .int .i64 z47, .string z48]) :: (box b3 3 [.int .i64 p2]) :: (box b2 34 (cKPastAL p1)) :: G1) [(3, .func (.yield l1) #[] #[]), (4, .pointer (some ⟨b8, 0, none⟩)), (6, .pointer (some ⟨b9, 0, none⟩)), (46, .slice A6 s2.length c6), (47, .int .i64 (s2.length : Int)), (48, .int .i64 x21), (57, .bool (!(isz k7)))] _) a w' hf hh
             clear hf hh
             cases k7 with
             | zero =>
              rw [natCase_zero] at hY2
              refine T.cond false (by kernel_rfl) (by kernel_rfl) (fun h => Bool.noConfusion h) (fun _ => ?_)
              refine T.skip_code ?_
              refine T.region ?_
              refine T.pure (.int .i64 (IntKind.i64.wrap (x21 + 1))) (by kernel_rfl) (fun _ => by kernel_rfl) ?_
              refine T.pure (.int .i64 (IntKind.i64.wrap (x21 + 1))) (by kernel_rfl) (fun _ => by kernel_rfl) ?_
              refine T.nil ?_
              cases hY2
              exact fun a w' hf hh => Exists.intro (z43, z44, z45, z46, z47, z48, IntKind.i64.wrap (x21 + 1)) (And.intro rfl (Exists.intro z43 (Exists.intro z44 (Exists.intro z45 (Exists.intro z46 (Exists.intro z47 (Exists.intro z48 (Exists.intro (IntKind.i64.wrap (x21 + 1)) (And.intro rfl (Exists.intro A6 (Exists.intro c6 (Exists.intro V16 (And.intro (View.le_trans hV14 hV16) (And.intro (SlOk.mono hs6 hV16) (And.intro (((((((Fr.nil hf).pick hf 48 rfl).pick hf 47 rfl).pick hf 46 rfl).pick hf 6 rfl).pick hf 4 rfl).pick hf 3 rfl) (hh.sub (List.Sublist.refl _)))))))))))))))))
             | succ k9 =>
              rw [natCase_succ] at hY2
              refine T.cond true (by kernel_rfl) (by kernel_rfl) (fun _ => ?_) (fun h => Bool.noConfusion h)
              refine T.seq ?_
              refine T.region ?_
              refine T.pure (.bool false) (by kernel_rfl) (fun _ => by kernel_rfl) ?_
              refine T.nil ?_
              cases hY2
              cases (hr3 _ rfl)
              try dsimp only at hS1
              have hres := Option.some.inj hS1
              subst hres
              refine T.ret rfl ?_
              repeat first | refine T.unthen ?_ | refine T.unblock ?_
              exact T.ret1 rfl (ResIs.tmp rfl) fun w' hh => ⟨_, rfl, Exists.intro (k9 + 1) (Exists.intro z43 (Exists.intro z44 (Exists.intro z45 (Exists.intro z46 (Exists.intro z47 (Exists.intro z48 (And.intro rfl (Exists.intro V16 (And.intro (View.le_trans (View.le_trans hV8 hV14) hV16) (And.intro rfl (hh.sub (.cons _ (.cons _ (List.Sublist.refl _))))))))))))))⟩
           ·
            rw [hc8, cond_false] at hY2
            refine T.exit ?_
            cases hY2
            cases (hr3 _ rfl)
            exact fun a w' hf hh => Exists.intro x15 (Exists.intro x16 (Exists.intro x17 (Exists.intro x18 (Exists.intro x19 (Exists.intro x20 (And.intro rfl (Exists.intro V14 (And.intro hV14 (And.intro (Fr.nil hf) (hh.sub (.cons _ (.cons _ (List.Sublist.refl _)))))))))))))
         ·
          rintro a w' ⟨z37, z38, z39, z40, z41, z42, rfl, V15, hV15, hf, hh⟩
          try dsimp only at hS1
          refine (?_ : T 59 w V15 ((loopo l1 lr1 (.exit 0) [.ret] 0) :: (marko d1) :: (box b5 25 [.int .i64 0]) :: (box b4 39 [.int .i64 z37, .int .i64 z38, .int .i64 z39, .int .i64 z40, .int .i64 z41, .string z42]) :: (box b3 3 [.int .i64 p2]) :: (box b2 34 (cKPastAL p1)) :: G1) [] _) a w' hf hh
          clear hf hh
          refine T.seq ?_
          refine T.region ?_
          refine T.pure (.bool true) (by kernel_rfl) (fun _ => by kernel_rfl) ?_
          refine T.nil ?_
          have hres := Option.some.inj hS1
          subst hres
          refine T.ret rfl ?_
          repeat first | refine T.unthen ?_ | refine T.unblock ?_
          exact T.ret1 rfl (ResIs.tmp rfl) fun w' hh => ⟨_, rfl, Exists.intro 0 (Exists.intro z37 (Exists.intro z38 (Exists.intro z39 (Exists.intro z40 (Exists.intro z41 (Exists.intro z42 (And.intro rfl (Exists.intro V15 (And.intro (View.le_trans hV8 hV15) (And.intro rfl (hh.sub (List.Sublist.refl _))))))))))))⟩
      ·
       refine T.step (W1.callI 57 [.agg #[.int .i64 p0.root, .slice A1 p0.nodes.length c1], .int .i64 p0.root, .agg #[.int .i64 p1.pfs, .int .i64 p1.obj, .int .i64 p1.off, .int .i64 0], .func (.yield l1) #[] #[]] (fun v w' => ∃ (z56 : Nat) (z57 : Int) (z58 : Int) (z59 : Int) (z60 : Int) (z61 : Int) (z62 : ByteArray), q3 = (z56, z57, z58, z59, z60, z61, z62) ∧ ∃ (V18 : View), View.le V2 V18 ∧ v = .bool (isz z56) ∧ Hp w V18 [loopo l1 lr1 (.exit 0) [.ret] z56, marko d1, box b5 25 [.int .i64 0], box b4 39 [.int .i64 z57, .int .i64 z58, .int .i64 z59, .int .i64 z60, .int .i64 z61, .string z62], box b3 3 [.int .i64 p2], box b2 34 (cKPastAL p1), box b7 36 [.int .i64 p1.pfs, .int .i64 p1.obj, .int .i64 p1.off, .int .i64 0], box b6 24 [.int .i64 p0.root, .slice A1 p0.nodes.length c1], box b1 24 [.int .i64 p0.root, .slice A1 p0.nodes.length c1]] w') (by kernel_rfl) (fun _ => by kernel_rfl) (fun w' hh => hq1 0 0 0 0 0 (ByteArray.mk #[]) p0.root rfl V2 [box b7 36 [.int .i64 p1.pfs, .int .i64 p1.obj, .int .i64 p1.off, .int .i64 0], box b6 24 [.int .i64 p0.root, .slice A1 p0.nodes.length c1], box b1 24 [.int .i64 p0.root, .slice A1 p0.nodes.length c1]] w' (View.le_refl _) ((hh.sub (.cons_cons _ (.cons_cons _ (.cons_cons _ (.cons_cons _ (.cons_cons _ (.cons_cons _ (.cons_cons _ (.cons_cons _ (.cons_cons _ List.Sublist.slnil)))))))))).perm (List.Perm.cons _ (List.Perm.cons _ (List.Perm.trans (List.Perm.cons _ (List.Perm.swap _ _ _)) (List.Perm.trans (List.Perm.swap _ _ _) (List.Perm.cons _ (List.Perm.trans (List.Perm.cons _ (List.Perm.swap _ _ _)) (List.Perm.trans (List.Perm.swap _ _ _) (List.Perm.cons _ (List.Perm.trans (List.Perm.cons _ (List.Perm.swap _ _ _)) (List.Perm.trans (List.Perm.swap _ _ _) (List.Perm.cons _ (List.Perm.trans (List.Perm.cons _ (List.Perm.swap _ _ _)) (List.Perm.trans (List.Perm.swap _ _ _) (List.Perm.refl _)))))))))))))))) ?_)
       rintro v w' ⟨z56, z57, z58, z59, z60, z61, z62, rfl, V18, hV18, rfl, hh⟩
       try dsimp only at hX2
       refine ⟨V18, [loopo l1 lr1 (.exit 0) [.ret] z56, marko d1, box b7 36 [.int .i64 p1.pfs, .int .i64 p1.obj, .int .i64 p1.off, .int .i64 0], box b6 24 [.int .i64 p0.root, .slice A1 p0.nodes.length c1], box b5 25 [.int .i64 0], box b4 39 [.int .i64 z57, .int .i64 z58, .int .i64 z59, .int .i64 z60, .int .i64 z61, .string z62], box b3 3 [.int .i64 p2], box b2 34 (cKPastAL p1), box b1 24 [.int .i64 p0.root, .slice A1 p0.nodes.length c1]], (hh.sub (.cons_cons _ (.cons_cons _ (.cons_cons _ (.cons_cons _ (.cons_cons _ (.cons_cons _ (.cons_cons _ (.cons_cons _ (.cons_cons _ List.Sublist.slnil)))))))))).perm (List.Perm.cons _ (List.Perm.cons _ (List.Perm.trans (List.Perm.cons _ (List.Perm.cons _ (List.Perm.cons _ (List.Perm.swap _ _ _)))) (List.Perm.trans (List.Perm.cons _ (List.Perm.cons _ (List.Perm.swap _ _ _))) (List.Perm.trans (List.Perm.cons _ (List.Perm.swap _ _ _)) (List.Perm.trans (List.Perm.swap _ _ _) (List.Perm.cons _ (List.Perm.trans (List.Perm.cons _ (List.Perm.cons _ (List.Perm.cons _ (List.Perm.swap _ _ _)))) (List.Perm.trans (List.Perm.cons _ (List.Perm.cons _ (List.Perm.swap _ _ _))) (List.Perm.trans (List.Perm.cons _ (List.Perm.swap _ _ _)) (List.Perm.trans (List.Perm.swap _ _ _) (List.Perm.refl _)))))))))))), ?_⟩
       clear hh
       cases z56 with
       | zero =>
        rw [natCase_zero] at hX2
        refine T.nil ?_
        cases hX2
        repeat first | refine T.unthenN ?_ | refine T.unblockN ?_
        exact T.end0 rfl (fun w' hh => ⟨_, rfl, Exists.intro 0 (Exists.intro z57 (Exists.intro z58 (Exists.intro z59 (Exists.intro z60 (Exists.intro z61 (Exists.intro z62 (And.intro rfl (Exists.intro V18 (And.intro hV18 (hh.sub (.cons_cons _ (.cons_cons _ (.cons _ (.cons _ (.cons_cons _ (.cons_cons _ (.cons _ (.cons _ (.cons _ List.Sublist.slnil)))))))))))))))))))⟩)
       | succ k10 =>
        rw [natCase_succ] at hX2
        refine T.nil ?_
        cases hX2
        repeat first | refine T.unthenN ?_ | refine T.unblockN ?_
        exact T.end0 rfl (fun w' hh => ⟨_, rfl, Exists.intro (k10 + 1) (Exists.intro z57 (Exists.intro z58 (Exists.intro z59 (Exists.intro z60 (Exists.intro z61 (Exists.intro z62 (And.intro rfl (Exists.intro V18 (And.intro hV18 (hh.sub (.cons_cons _ (.cons_cons _ (.cons _ (.cons _ (.cons_cons _ (.cons_cons _ (.cons _ (.cons _ (.cons _ List.Sublist.slnil)))))))))))))))))))⟩)
     ·
      rintro l1 d1 lr1 w' ⟨k1, z7, z8, z9, z10, z11, z12, rfl, V4, hV4, hh⟩
      try dsimp only at hX1
      refine ⟨V4, [marko d1, box b5 25 [.int .i64 0], box b4 39 [.int .i64 z7, .int .i64 z8, .int .i64 z9, .int .i64 z10, .int .i64 z11, .string z12]], k1, hh, ?_⟩
      clear hh
      cases k1 with
      | zero =>
       rw [natCase_zero] at hX1
       rw [natCase_zero]
       cases hX1
       exact fun a w' hf hh => Exists.intro z7 (Exists.intro z8 (Exists.intro z9 (Exists.intro z10 (Exists.intro z11 (Exists.intro z12 (And.intro rfl (Exists.intro d1 (Exists.intro V4 (And.intro hV4 (And.intro (((Fr.nil hf).pick hf 7 rfl).pick hf 6 rfl) (hh.sub (.cons_cons _ (.cons_cons _ (.cons_cons _ List.Sublist.slnil))))))))))))))
      | succ k11 =>
       rw [natCase_succ] at hX1
       rw [natCase_succ]
       cases k11 with
       | zero =>
        rw [natCase_zero] at hX1
        rw [pick_zero]
        refine T.exit ?_
        cases hX1
        exact fun a w' hf hh => Exists.intro z7 (Exists.intro z8 (Exists.intro z9 (Exists.intro z10 (Exists.intro z11 (Exists.intro z12 (And.intro rfl (Exists.intro d1 (Exists.intro V4 (And.intro hV4 (And.intro (((Fr.nil hf).pick hf 7 rfl).pick hf 6 rfl) (hh.sub (.cons_cons _ (.cons_cons _ (.cons_cons _ List.Sublist.slnil))))))))))))))
       | succ k12 =>
        rw [natCase_succ] at hX1
        rw [pick_succ]
        rw [pick_nil]
        cases hX1
        try dsimp only at hF
        cases hF
        refine T.ret rfl ?_
        refine T.leaveM [box b5 25 [.int .i64 0], box b4 39 [.int .i64 z7, .int .i64 z8, .int .i64 z9, .int .i64 z10, .int .i64 z11, .string z12]] [d1] (fun w' hh => hh.sub (.cons_cons _ (.cons_cons _ (.cons_cons _ List.Sublist.slnil)))) ?_
        exact T.ret2 rfl (ResIs.cellN 1 rfl (by rfl) (fun _ => by kernel_rfl) (fun _ => by kernel_rfl)) (ResIs.cell1 0 rfl (by rfl) (fun _ => by kernel_rfl)) fun w' hh => ⟨_, rfl, hh.below, (vT2.mk (vAg.mk rfl) (show _ from rfl))⟩
   ·
    rintro a w' ⟨z1, z2, z3, z4, z5, z6, rfl, d1, V3, hV3, hf, hh⟩
    try dsimp only at hF
    refine (?_ : T ⟨37, [d1]⟩ w V3 [marko d1, box b5 25 [.int .i64 0], box b4 39 [.int .i64 z1, .int .i64 z2, .int .i64 z3, .int .i64 z4, .int .i64 z5, .string z6]] [(6, .pointer (some ⟨b4, 0, none⟩)), (7, .pointer (some ⟨b5, 0, none⟩))] _) a w' hf hh
    clear hf hh
    refine T.seq ?_
    refine T.region ?_
    refine T.pure (.agg #[.int .i64 0, .int .i64 0, .int .i64 0, .int .i64 0, .int .i64 0, .string (ByteArray.mk #[])]) (by kernel_rfl) (fun _ => by kernel_rfl) ?_
    refine T.step (W1.store 2 [.int .i64 0, .int .i64 0, .int .i64 0, .int .i64 0, .int .i64 0, .string (ByteArray.mk #[])] [marko d1, box b5 25 [.int .i64 0], box b4 39 [.int .i64 0, .int .i64 0, .int .i64 0, .int .i64 0, .int .i64 0, .string (ByteArray.mk #[])]] (by rfl) rfl (by kernel_rfl) (fun w' hw => exec_store (vs := [.int .i64 0, .int .i64 0, .int .i64 0, .int .i64 0, .int .i64 0, .string (ByteArray.mk #[])]) rfl rfl rfl rfl (by kernel_rfl) (one_of rfl) (by simp) rfl hw) ?_)
    refine T.step (W1.store 1 [.int .i64 4] [marko d1, box b5 25 [.int .i64 4], box b4 39 [.int .i64 0, .int .i64 0, .int .i64 0, .int .i64 0, .int .i64 0, .string (ByteArray.mk #[])]] (by rfl) rfl (by kernel_rfl) (fun w' hw => exec_store (vs := [.int .i64 4]) rfl rfl rfl rfl (by kernel_rfl) (one_of rfl) (by simp) rfl hw) ?_)
    refine T.nil ?_
    cases hF
    refine T.ret rfl ?_
    refine T.leaveM [box b5 25 [.int .i64 4], box b4 39 [.int .i64 0, .int .i64 0, .int .i64 0, .int .i64 0, .int .i64 0, .string (ByteArray.mk #[])]] [d1] (fun w' hh => hh.sub (.cons_cons _ (.cons_cons _ (.cons_cons _ List.Sublist.slnil)))) ?_
    exact T.ret2 rfl (ResIs.cellN 1 rfl (by rfl) (fun _ => by kernel_rfl) (fun _ => by kernel_rfl)) (ResIs.cell1 0 rfl (by rfl) (fun _ => by kernel_rfl)) fun w' hh => ⟨_, rfl, hh.below, (vT2.mk (vAg.mk rfl) (show _ from rfl))⟩

end Go.Proofs.Ytoaopihihccfkaa
