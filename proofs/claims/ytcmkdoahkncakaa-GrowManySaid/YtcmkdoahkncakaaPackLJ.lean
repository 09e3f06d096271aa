/- The Go functions of group Pack compute the pure functions of that group: written by walkgen.py. Condition of each: the pure function yields a result. -/
import Derived.Test.YtcmkdoahkncakaaSh2J
import Derived.Test.YtcmkdoahkncakaaBuildLJ
import Derived.Test.YtcmkdoahkncakaaTreeLJ
import Derived.Test.YtcmkdoahkncakaaEqsLJ
import Derived.Test.YtcmkdoahkncakaaClearJ
import Derived.Test.YtcmkdoahkncakaaPackFJ
import Derived.Test.YtcmkdoahkncakaaEqLJ
namespace Go.Proofs.Ytcmkdoahkncakaa
set_option linter.unusedVariables false
set_option maxRecDepth 100000 in
set_option maxHeartbeats 4000000 in
theorem annalref_SameNode_l (F : Nat) (p0 : DNode) (p1 : DNode) (r : Bool) (hF : annalref_SameNode F p0 p1 = some r) (w : World) (A1 : Option Addr) (c1 : Nat) (hs1 : SlOk (vw w) eElem A1 c1 p0.elems) (A2 : Option Addr) (c2 : Nat) (hs2 : SlOk (vw w) eInt A2 c2 p0.kids) (A3 : Option Addr) (c3 : Nat) (hs3 : SlOk (vw w) eSpot A3 c3 p0.seps) (A4 : Option Addr) (c4 : Nat) (hs4 : SlOk (vw w) eInt A4 c4 p0.tids) (A5 : Option Addr) (c5 : Nat) (hs5 : SlOk (vw w) eElem A5 c5 p1.elems) (A6 : Option Addr) (c6 : Nat) (hs6 : SlOk (vw w) eInt A6 c6 p1.kids) (A7 : Option Addr) (c7 : Nat) (hs7 : SlOk (vw w) eSpot A7 c7 p1.seps) (A8 : Option Addr) (c8 : Nat) (hs8 : SlOk (vw w) eInt A8 c8 p1.tids) :
 Calls Try.prog 58 #[.agg #[.int .i64 p0.kind, .slice A1 p0.elems.length c1, .slice A2 p0.kids.length c2, .slice A3 p0.seps.length c3, .slice A4 p0.tids.length c4], .agg #[.int .i64 p1.kind, .slice A5 p1.elems.length c5, .slice A6 p1.kids.length c6, .slice A7 p1.seps.length c7, .slice A8 p1.tids.length c8]] w (Post (vSc eBool) r w) := by
 unfold annalref_SameNode at hF
 refine T.start (l := [.agg #[vi p0.kind, .slice A1 p0.elems.length c1, .slice A2 p0.kids.length c2, .slice A3 p0.seps.length c3, .slice A4 p0.tids.length c4], .agg #[vi p1.kind, .slice A5 p1.elems.length c5, .slice A6 p1.kids.length c6, .slice A7 p1.seps.length c7, .slice A8 p1.tids.length c8]]) Try.func58 rfl rfl rfl ?_
 refine T.seq ?_
 refine T.region ?_
 refine T.step (W1.np 97 [vi p0.kind, .slice A1 p0.elems.length c1, .slice A2 p0.kids.length c2, .slice A3 p0.seps.length c3, .slice A4 p0.tids.length c4] (fun _ => by kernel_rfl) (fun b1 => ?_))
 refine T.step (W1.np 97 [vi p1.kind, .slice A5 p1.elems.length c5, .slice A6 p1.kids.length c6, .slice A7 p1.seps.length c7, .slice A8 p1.tids.length c8] (fun _ => by kernel_rfl) (fun b2 => ?_))
 refine T.pk (.bool false) (fun _ => by kernel_rfl) ?_
 refine T.nil ?_
 obtain ⟨z1, hX1, hF⟩ := ob hF
 refine T.cut (fun a w' => ∃ (V1 : View), View.le (vw w) V1 ∧ Fr 38 [(4, .bool z1)] a ∧ Hp w V1 [] w') ?_ ?_
 ·
  refine T.region ?_
  refine T.pk (pB b1 0) (fun _ => by kernel_rfl) ?_
  refine T.look (vi p0.kind) (by kernel_rfl) (ld1 1 rfl rfl (fun _ => by kernel_rfl) (by rfl) rfl) ?_
  refine T.pk (pB b2 0) (fun _ => by kernel_rfl) ?_
  refine T.look (vi p1.kind) (by kernel_rfl) (ld1 0 rfl rfl (fun _ => by kernel_rfl) (by rfl) rfl) ?_
  refine T.p2 (.bool (p0.kind == p1.kind)) (.bool (p0.kind == p1.kind)) (fun _ => by kernel_rfl) ?_
  cases hg1 : (p0.kind == p1.kind)
  ·
   skip
   rw [hg1, cond_false] at hX1
   refine T.pass (by kernel_rfl) (by kernel_rfl) ?_
   refine T.pass (by kernel_rfl) (by kernel_rfl) ?_
   refine T.pass (by kernel_rfl) (by kernel_rfl) ?_
   refine T.pass (by kernel_rfl) (by kernel_rfl) ?_
   refine T.pass (by kernel_rfl) (by kernel_rfl) ?_
   refine T.p2 (.bool false) (.bool false) (fun _ => by kernel_rfl) ?_
   refine T.pass (by kernel_rfl) (by kernel_rfl) ?_
   refine T.pass (by kernel_rfl) (by kernel_rfl) ?_
   refine T.pass (by kernel_rfl) (by kernel_rfl) ?_
   refine T.pass (by kernel_rfl) (by kernel_rfl) ?_
   refine T.pass (by kernel_rfl) (by kernel_rfl) ?_
   refine T.p2 (.bool false) (.bool false) (fun _ => by kernel_rfl) ?_
   refine T.pass (by kernel_rfl) (by kernel_rfl) ?_
   refine T.pass (by kernel_rfl) (by kernel_rfl) ?_
   refine T.pass (by kernel_rfl) (by kernel_rfl) ?_
   refine T.pass (by kernel_rfl) (by kernel_rfl) ?_
   refine T.pass (by kernel_rfl) (by kernel_rfl) ?_
   refine T.p2 (.bool false) (.bool false) (fun _ => by kernel_rfl) ?_
   refine T.pass (by kernel_rfl) (by kernel_rfl) ?_
   refine T.pass (by kernel_rfl) (by kernel_rfl) ?_
   refine T.pass (by kernel_rfl) (by kernel_rfl) ?_
   refine T.pass (by kernel_rfl) (by kernel_rfl) ?_
   refine T.pass (by kernel_rfl) (by kernel_rfl) ?_
   refine T.p2 (.bool false) (.bool false) (fun _ => by kernel_rfl) ?_
   refine T.nil ?_
   cases hX1
   exact fun a w' hf hh => ⟨(vw w), vr, ((Fr.nil hf).pick hf 4 rfl), (hh.sub (dr1 (dr1 kp0)))⟩
  skip
  rw [hg1, cond_true] at hX1
  refine T.pk (pB b1 1) (fun _ => by kernel_rfl) ?_
  refine T.look (.slice A1 p0.elems.length c1) (by kernel_rfl) (ld1 1 rfl rfl (fun _ => by kernel_rfl) (by rfl) rfl) ?_
  refine T.pk (pB b2 1) (fun _ => by kernel_rfl) ?_
  refine T.look (.slice A5 p1.elems.length c5) (by kernel_rfl) (ld1 0 rfl rfl (fun _ => by kernel_rfl) (by rfl) rfl) ?_
  obtain ⟨r1, hb1, hX1⟩ := ob hX1
  refine T.step (W1.call (vSc eBool) r1 18 #[.slice A1 p0.elems.length c1, .slice A5 p1.elems.length c5] (by kernel_rfl) (fun _ => by kernel_rfl) (fun w' hh => slices_Equal_Elem_l F p0.elems p1.elems r1 hb1 w' A1 c1 (SlOk.mono hs1 hh.view) A5 c5 (SlOk.mono hs5 hh.view)) ?_)
  intro u V2 hV2 hu
  obtain rfl := sureBool _ _ _ hu
  refine T.p2 (.bool r1) (.bool r1) (fun _ => by kernel_rfl) ?_
  cases hg2 : r1
  ·
   skip
   rw [hg2, cond_false] at hX1
   refine T.pass (by kernel_rfl) (by kernel_rfl) ?_
   refine T.pass (by kernel_rfl) (by kernel_rfl) ?_
   refine T.pass (by kernel_rfl) (by kernel_rfl) ?_
   refine T.pass (by kernel_rfl) (by kernel_rfl) ?_
   refine T.pass (by kernel_rfl) (by kernel_rfl) ?_
   refine T.p2 (.bool false) (.bool false) (fun _ => by kernel_rfl) ?_
   refine T.pass (by kernel_rfl) (by kernel_rfl) ?_
   refine T.pass (by kernel_rfl) (by kernel_rfl) ?_
   refine T.pass (by kernel_rfl) (by kernel_rfl) ?_
   refine T.pass (by kernel_rfl) (by kernel_rfl) ?_
   refine T.pass (by kernel_rfl) (by kernel_rfl) ?_
   refine T.p2 (.bool false) (.bool false) (fun _ => by kernel_rfl) ?_
   refine T.pass (by kernel_rfl) (by kernel_rfl) ?_
   refine T.pass (by kernel_rfl) (by kernel_rfl) ?_
   refine T.pass (by kernel_rfl) (by kernel_rfl) ?_
   refine T.pass (by kernel_rfl) (by kernel_rfl) ?_
   refine T.pass (by kernel_rfl) (by kernel_rfl) ?_
   refine T.p2 (.bool false) (.bool false) (fun _ => by kernel_rfl) ?_
   refine T.nil ?_
   cases hX1
   exact fun a w' hf hh => ⟨V2, hV2, ((Fr.nil hf).pick hf 4 rfl), (hh.sub (dr1 (dr1 kp0)))⟩
  skip
  rw [hg2, cond_true] at hX1
  refine T.pk (pB b1 2) (fun _ => by kernel_rfl) ?_
  refine T.look (.slice A2 p0.kids.length c2) (by kernel_rfl) (ld1 1 rfl rfl (fun _ => by kernel_rfl) (by rfl) rfl) ?_
  refine T.pk (pB b2 2) (fun _ => by kernel_rfl) ?_
  refine T.look (.slice A6 p1.kids.length c6) (by kernel_rfl) (ld1 0 rfl rfl (fun _ => by kernel_rfl) (by rfl) rfl) ?_
  obtain ⟨r2, hb2, hX1⟩ := ob hX1
  refine T.step (W1.call (vSc eBool) r2 81 #[.slice A2 p0.kids.length c2, .slice A6 p1.kids.length c6] (by kernel_rfl) (fun _ => by kernel_rfl) (fun w' hh => slices_Equal_int_l F p0.kids p1.kids r2 hb2 w' A2 c2 (SlOk.mono (SlOk.mono hs2 hV2) hh.view) A6 c6 (SlOk.mono (SlOk.mono hs6 hV2) hh.view)) ?_)
  intro u V3 hV3 hu
  obtain rfl := sureBool _ _ _ hu
  refine T.p2 (.bool r2) (.bool r2) (fun _ => by kernel_rfl) ?_
  cases hg3 : r2
  ·
   skip
   rw [hg3, cond_false] at hX1
   refine T.pass (by kernel_rfl) (by kernel_rfl) ?_
   refine T.pass (by kernel_rfl) (by kernel_rfl) ?_
   refine T.pass (by kernel_rfl) (by kernel_rfl) ?_
   refine T.pass (by kernel_rfl) (by kernel_rfl) ?_
   refine T.pass (by kernel_rfl) (by kernel_rfl) ?_
   refine T.p2 (.bool false) (.bool false) (fun _ => by kernel_rfl) ?_
   refine T.pass (by kernel_rfl) (by kernel_rfl) ?_
   refine T.pass (by kernel_rfl) (by kernel_rfl) ?_
   refine T.pass (by kernel_rfl) (by kernel_rfl) ?_
   refine T.pass (by kernel_rfl) (by kernel_rfl) ?_
   refine T.pass (by kernel_rfl) (by kernel_rfl) ?_
   refine T.p2 (.bool false) (.bool false) (fun _ => by kernel_rfl) ?_
   refine T.nil ?_
   cases hX1
   exact fun a w' hf hh => ⟨V3, (vt hV2 hV3), ((Fr.nil hf).pick hf 4 rfl), (hh.sub (dr1 (dr1 kp0)))⟩
  skip
  rw [hg3, cond_true] at hX1
  refine T.pk (pB b1 3) (fun _ => by kernel_rfl) ?_
  refine T.look (.slice A3 p0.seps.length c3) (by kernel_rfl) (ld1 1 rfl rfl (fun _ => by kernel_rfl) (by rfl) rfl) ?_
  refine T.pk (pB b2 3) (fun _ => by kernel_rfl) ?_
  refine T.look (.slice A7 p1.seps.length c7) (by kernel_rfl) (ld1 0 rfl rfl (fun _ => by kernel_rfl) (by rfl) rfl) ?_
  obtain ⟨r3, hb3, hX1⟩ := ob hX1
  refine T.step (W1.call (vSc eBool) r3 82 #[.slice A3 p0.seps.length c3, .slice A7 p1.seps.length c7] (by kernel_rfl) (fun _ => by kernel_rfl) (fun w' hh => slices_Equal_Spot_l F p0.seps p1.seps r3 hb3 w' A3 c3 (SlOk.mono (SlOk.mono hs3 (vt hV2 hV3)) hh.view) A7 c7 (SlOk.mono (SlOk.mono hs7 (vt hV2 hV3)) hh.view)) ?_)
  intro u V4 hV4 hu
  obtain rfl := sureBool _ _ _ hu
  refine T.p2 (.bool r3) (.bool r3) (fun _ => by kernel_rfl) ?_
  cases hg4 : r3
  ·
   skip
   rw [hg4, cond_false] at hX1
   refine T.pass (by kernel_rfl) (by kernel_rfl) ?_
   refine T.pass (by kernel_rfl) (by kernel_rfl) ?_
   refine T.pass (by kernel_rfl) (by kernel_rfl) ?_
   refine T.pass (by kernel_rfl) (by kernel_rfl) ?_
   refine T.pass (by kernel_rfl) (by kernel_rfl) ?_
   refine T.p2 (.bool false) (.bool false) (fun _ => by kernel_rfl) ?_
   refine T.nil ?_
   cases hX1
   exact fun a w' hf hh => ⟨V4, (vt (vt hV2 hV3) hV4), ((Fr.nil hf).pick hf 4 rfl), (hh.sub (dr1 (dr1 kp0)))⟩
  skip
  rw [hg4, cond_true] at hX1
  refine T.pk (pB b1 4) (fun _ => by kernel_rfl) ?_
  refine T.look (.slice A4 p0.tids.length c4) (by kernel_rfl) (ld1 1 rfl rfl (fun _ => by kernel_rfl) (by rfl) rfl) ?_
  refine T.pk (pB b2 4) (fun _ => by kernel_rfl) ?_
  refine T.look (.slice A8 p1.tids.length c8) (by kernel_rfl) (ld1 0 rfl rfl (fun _ => by kernel_rfl) (by rfl) rfl) ?_
  obtain ⟨r4, hb4, hX1⟩ := ob hX1
  refine T.step (W1.call (vSc eBool) r4 81 #[.slice A4 p0.tids.length c4, .slice A8 p1.tids.length c8] (by kernel_rfl) (fun _ => by kernel_rfl) (fun w' hh => slices_Equal_int_l F p0.tids p1.tids r4 hb4 w' A4 c4 (SlOk.mono (SlOk.mono hs4 (vt (vt hV2 hV3) hV4)) hh.view) A8 c8 (SlOk.mono (SlOk.mono hs8 (vt (vt hV2 hV3) hV4)) hh.view)) ?_)
  intro u V5 hV5 hu
  obtain rfl := sureBool _ _ _ hu
  refine T.p2 (.bool r4) (.bool r4) (fun _ => by kernel_rfl) ?_
  refine T.nil ?_
  cases hX1
  exact fun a w' hf hh => ⟨V5, (vt (vt (vt hV2 hV3) hV4) hV5), ((Fr.nil hf).pick hf 4 rfl), (hh.sub (dr1 (dr1 kp0)))⟩
 rintro a w' ⟨V1, hV1, hf, hh⟩
 refine (?_ : T 38 w V1 [] [(4, .bool z1)] _) a w' hf hh
 clear hf hh
 cases hF
 refine T.ret rfl ?_
 exact T.ret1 rfl (ResIs.tmp rfl) fun w' hh => ⟨_, rfl, hh.below, (show _ from rfl)⟩
set_option maxRecDepth 100000 in
set_option maxHeartbeats 4000000 in
theorem annalref_SameTree_l (F : Nat) (p0 : DTree) (p1 : DTree) (r : Bool) (hF : annalref_SameTree F p0 p1 = some r) (w : World) (A1 : Option Addr) (c1 : Nat) (hs1 : SlOk (vw w) eNode A1 c1 p0.nodes) (A2 : Option Addr) (c2 : Nat) (hs2 : SlOk (vw w) eNode A2 c2 p1.nodes) :
 Calls Try.prog 30 #[.agg #[.int .i64 p0.root, .slice A1 p0.nodes.length c1], .agg #[.int .i64 p1.root, .slice A2 p1.nodes.length c2]] w (Post (vSc eBool) r w) := by
 unfold annalref_SameTree at hF
 refine T.start (l := [.agg #[vi p0.root, .slice A1 p0.nodes.length c1], .agg #[vi p1.root, .slice A2 p1.nodes.length c2]]) Try.func30 rfl rfl rfl ?_
 refine T.seq ?_
 refine T.region ?_
 refine T.step (W1.np 24 [vi p0.root, .slice A1 p0.nodes.length c1] (fun _ => by kernel_rfl) (fun b1 => ?_))
 refine T.step (W1.np 24 [vi p1.root, .slice A2 p1.nodes.length c2] (fun _ => by kernel_rfl) (fun b2 => ?_))
 refine T.pk (.bool false) (fun _ => by kernel_rfl) ?_
 refine T.nil ?_
 obtain ⟨z1, hX1, hF⟩ := ob hF
 refine T.cut (fun a w' => ∃ (V1 : View), View.le (vw w) V1 ∧ Fr 17 [(4, .bool z1)] a ∧ Hp w V1 [] w') ?_ ?_
 ·
  refine T.region ?_
  refine T.pk (pB b1 0) (fun _ => by kernel_rfl) ?_
  refine T.look (vi p0.root) (by kernel_rfl) (ld1 1 rfl rfl (fun _ => by kernel_rfl) (by rfl) rfl) ?_
  refine T.pk (pB b2 0) (fun _ => by kernel_rfl) ?_
  refine T.look (vi p1.root) (by kernel_rfl) (ld1 0 rfl rfl (fun _ => by kernel_rfl) (by rfl) rfl) ?_
  refine T.p2 (.bool (p0.root == p1.root)) (.bool (p0.root == p1.root)) (fun _ => by kernel_rfl) ?_
  cases hg1 : (p0.root == p1.root)
  ·
   skip
   rw [hg1, cond_false] at hX1
   refine T.pass (by kernel_rfl) (by kernel_rfl) ?_
   refine T.pass (by kernel_rfl) (by kernel_rfl) ?_
   refine T.pass (by kernel_rfl) (by kernel_rfl) ?_
   refine T.pass (by kernel_rfl) (by kernel_rfl) ?_
   refine T.pass (by kernel_rfl) (by kernel_rfl) ?_
   refine T.p2 (.bool false) (.bool false) (fun _ => by kernel_rfl) ?_
   refine T.nil ?_
   cases hX1
   exact fun a w' hf hh => ⟨(vw w), vr, ((Fr.nil hf).pick hf 4 rfl), (hh.sub (dr1 (dr1 kp0)))⟩
  skip
  rw [hg1, cond_true] at hX1
  refine T.pk (pB b1 1) (fun _ => by kernel_rfl) ?_
  refine T.look (.slice A1 p0.nodes.length c1) (by kernel_rfl) (ld1 1 rfl rfl (fun _ => by kernel_rfl) (by rfl) rfl) ?_
  refine T.pk (pB b2 1) (fun _ => by kernel_rfl) ?_
  refine T.look (.slice A2 p1.nodes.length c2) (by kernel_rfl) (ld1 0 rfl rfl (fun _ => by kernel_rfl) (by rfl) rfl) ?_
  obtain ⟨z2, hX2, hX1⟩ := ob hX1
  let i1_ : HObj := box b2 24 [vi p1.root, .slice A2 p1.nodes.length c2]
  let i2_ : HObj := box b1 24 [vi p0.root, .slice A1 p0.nodes.length c1]
  let t3_ : List HObj := i1_ :: i2_ :: []
  refine T.step (W1.within 57 [.slice A1 p0.nodes.length c1, .slice A2 p1.nodes.length c2, .func (.func 58) #[] #[]] (fun v w' => ∃ (V2 : View), View.le (vw w) V2 ∧ v = .bool z2 ∧ Hp w V2 t3_ w') Try.func57 rfl rfl (by kernel_rfl) (fun _ => by kernel_rfl) rfl ?_ ?_)
  ·
   refine T.seq ?_
   refine T.region ?_
   refine T.pk (.bool false) (fun _ => by kernel_rfl) ?_
   refine T.nil ?_
   refine T.seq ?_
   refine T.seq ?_
   refine T.region ?_
   refine T.p5 (.slice A1 p0.nodes.length c1) (vi (p0.nodes.length : Int)) (.slice A2 p1.nodes.length c2) (vi (p1.nodes.length : Int)) (.bool ((p0.nodes.length : Int) != (p1.nodes.length : Int))) (fun _ => by kernel_rfl) ?_
   refine T.nil ?_
   refine T.cond ((p0.nodes.length : Int) != (p1.nodes.length : Int)) (by kernel_rfl) (by kernel_rfl) (fun hc1 => ?_) (fun hc1 => ?_)
   ·
    rw [hc1, cond_true] at hX2
    refine T.seq ?_
    refine T.region ?_
    refine T.pk (.bool false) (fun _ => by kernel_rfl) ?_
    refine T.nil ?_
    cases hX2
    refine T.ret rfl ?_
    repeat first | refine T.unthen ?_ | refine T.unblock ?_
    exact T.ret1 rfl (ResIs.tmp rfl) fun w' hh => ⟨_, rfl, ⟨(vw w), vr, rfl, (hh.sub (kp1 (kp1 kp0)))⟩⟩
   rw [hc1, cond_false] at hX2
   refine T.skip_code ?_
   refine T.seq ?_
   refine T.seq ?_
   refine T.region ?_
   refine T.p3 (.slice A1 p0.nodes.length c1) (vi (p0.nodes.length : Int)) (vi 0) (fun _ => by kernel_rfl) ?_
   refine T.nil ?_
   obtain ⟨q1, hz1, hX2⟩ := ob hX2
   refine T.mid (fun a w' => q1 = Sum.inl () ∧ ∃ (V4 : View), View.le (vw w) V4 ∧ Fr 32 [] a ∧ Hp w V4 t3_ w') ?_ ?_
   ·
    refine T.block ?_
    refine T.iter (fun x1 a w' => ∃ (V3 : View), View.le (vw w) V3 ∧ Fr 32 [(1, .slice A2 p1.nodes.length c2), (2, .func (.func 58) #[] #[]), (15, .slice A1 p0.nodes.length c1), (16, vi (p0.nodes.length : Int)), (17, vi x1)] a ∧ Hp w V3 t3_ w') hz1 ?_ ?_
    ·
     exact fun a w' hf hh => ⟨(vw w), vr, ((((((Fr.nil hf).pick hf 17 rfl).pick hf 16 rfl).pick hf 15 rfl).pick hf 2 rfl).pick hf 1 rfl), (hh.sub (kp1 (kp1 kp0)))⟩
    rintro x1 y1 hY1 hr1 a w' ⟨V3, hV3, hf, hh⟩
    refine (?_ : T 32 w V3 t3_ [(1, .slice A2 p1.nodes.length c2), (2, .func (.func 58) #[] #[]), (15, .slice A1 p0.nodes.length c1), (16, vi (p0.nodes.length : Int)), (17, vi x1)] _) a w' hf hh
    clear hf hh
    try dsimp only at hY1
    refine T.seq ?_
    refine T.region ?_
    refine T.pk (.bool (decide (x1 < (p0.nodes.length : Int)))) (fun _ => by kernel_rfl) ?_
    refine T.nil ?_
    refine T.seq ?_
    refine T.cond (decide (x1 < (p0.nodes.length : Int))) (by kernel_rfl) (by kernel_rfl) (fun hc2 => ?_) (fun hc2 => ?_)
    ·
     rw [hc2, cond_true] at hY1
     refine T.skip_code ?_
     refine T.seq ?_
     refine T.block ?_
     refine T.seq ?_
     refine T.region ?_
     refine T.pk (vi x1) (fun _ => by kernel_rfl) ?_
     obtain ⟨e1, hb1, hY1⟩ := ob hY1
     obtain ⟨hi1, hi2, hi3⟩ := idx_some hb1
     obtain ⟨cs1, hr2, hc3⟩ := SlOk.elem (SlOk.mono hs1 hV3) hi3
     obtain ⟨A3, c3, A4, c4, A5, c5, A6, c6, rfl, hs3, hs4, hs5, hs6⟩ := hr2
     refine T.look (.pointer (some ((sadr A1).add (x1.toNat * 5)))) (by kernel_rfl) (fun w' hh => exec_indexAddr (e := 97) (s := 5) rfl rfl rfl (by kernel_rfl) (by kernel_rfl) hi1 hi2 ((SlOk.mono hs1 hV3).some_ hi3 (by decide))) ?_
     let v5_ : List Value := [vi e1.kind, .slice A3 e1.elems.length c3, .slice A4 e1.kids.length c4, .slice A5 e1.seps.length c5, .slice A6 e1.tids.length c6]
     let a7_ : Value := .agg #[vi e1.kind, .slice A3 e1.elems.length c3, .slice A4 e1.kids.length c4, .slice A5 e1.seps.length c5, .slice A6 e1.tids.length c6]
     refine T.look a7_ (by kernel_rfl) (fun w' hh => exec_loadN (cs := v5_) rfl rfl (by kernel_rfl) (by kernel_rfl) (fun j u hj => hh.cell_view (View.cell_mono vr (hc3 j u hj).2))) ?_
     refine T.step (W1.np 97 [vi 0, sN, sN, sN, sN] (fun _ => by kernel_rfl) (fun b3 => ?_))
     refine T.pk (vi x1) (fun _ => by kernel_rfl) ?_
     let i4_ : HObj := box b3 97 v5_
     refine T.step (W1.st 0 v5_ (i4_ :: t3_) v5_ (by rfl) rfl rfl rfl rfl rfl rfl (fun _ => by kernel_rfl) ?_)
     refine T.nil ?_
     refine T.seq ?_
     refine T.region ?_
     refine T.p2 (.slice A2 p1.nodes.length c2) (vi x1) (fun _ => by kernel_rfl) ?_
     obtain ⟨e2, hb2, hY1⟩ := ob hY1
     obtain ⟨hi4, hi5, hi6⟩ := idx_some hb2
     obtain ⟨cs2, hr3, hc4⟩ := SlOk.elem (SlOk.mono hs2 hV3) hi6
     obtain ⟨A7, c7, A8, c8, A9, c9, A10, c10, rfl, hs7, hs8, hs9, hs10⟩ := hr3
     refine T.look (.pointer (some ((sadr A2).add (x1.toNat * 5)))) (by kernel_rfl) (fun w' hh => exec_indexAddr (e := 97) (s := 5) rfl rfl rfl (by kernel_rfl) (by kernel_rfl) hi4 hi5 ((SlOk.mono hs2 hV3).some_ hi6 (by decide))) ?_
     let v6_ : List Value := [vi e2.kind, .slice A7 e2.elems.length c7, .slice A8 e2.kids.length c8, .slice A9 e2.seps.length c9, .slice A10 e2.tids.length c10]
     let a8_ : Value := .agg #[vi e2.kind, .slice A7 e2.elems.length c7, .slice A8 e2.kids.length c8, .slice A9 e2.seps.length c9, .slice A10 e2.tids.length c10]
     refine T.look a8_ (by kernel_rfl) (fun w' hh => exec_loadN (cs := v6_) rfl rfl (by kernel_rfl) (by kernel_rfl) (fun j u hj => hh.cell_view (View.cell_mono vr (hc4 j u hj).2))) ?_
     refine T.step (W1.np 97 [vi 0, sN, sN, sN, sN] (fun _ => by kernel_rfl) (fun b4 => ?_))
     refine T.step (W1.st 0 v6_ ((box b4 97 v6_) :: i4_ :: t3_) v6_ (by rfl) rfl rfl rfl rfl rfl rfl (fun _ => by kernel_rfl) ?_)
     refine T.nil ?_
     refine T.seq ?_
     refine T.region ?_
     refine T.pk (.func (.func 58) #[] #[]) (fun _ => by kernel_rfl) ?_
     refine T.look a7_ (by kernel_rfl) (ldN 1 rfl rfl (fun _ => by kernel_rfl) (by rfl) rfl) ?_
     refine T.look a8_ (by kernel_rfl) (ldN 0 rfl rfl (fun _ => by kernel_rfl) (by rfl) rfl) ?_
     obtain ⟨r1, hb3, hY1⟩ := ob hY1
     refine T.step (W1.call (vSc eBool) r1 58 #[a7_, a8_] (by kernel_rfl) (fun _ => by kernel_rfl) (fun w' hh => annalref_SameNode_l F e1 e2 r1 hb3 w' A3 c3 (SlOk.mono hs3 hh.view) A4 c4 (SlOk.mono hs4 hh.view) A5 c5 (SlOk.mono hs5 hh.view) A6 c6 (SlOk.mono hs6 hh.view) A7 c7 (SlOk.mono hs7 hh.view) A8 c8 (SlOk.mono hs8 hh.view) A9 c9 (SlOk.mono hs9 hh.view) A10 c10 (SlOk.mono hs10 hh.view)) ?_)
     intro u V5 hV5 hu
     obtain rfl := sureBool _ _ _ hu
     refine T.pk (.bool (!r1)) (fun _ => by kernel_rfl) ?_
     refine T.nil ?_
     refine T.cond (!r1) (by kernel_rfl) (by kernel_rfl) (fun hc5 => ?_) (fun hc5 => ?_)
     ·
      rw [hc5, cond_true] at hY1
      refine T.seq ?_
      refine T.region ?_
      refine T.pk (.bool false) (fun _ => by kernel_rfl) ?_
      refine T.nil ?_
      cases hY1
      cases (hr1 _ rfl)
      try dsimp only at hX2
      cases hX2
      refine T.ret rfl ?_
      repeat first | refine T.unthen ?_ | refine T.unblock ?_
      exact T.ret1 rfl (ResIs.tmp rfl) fun w' hh => ⟨_, rfl, ⟨V5, (vt hV3 hV5), rfl, (hh.sub (dr2 (kp1 (kp1 kp0))))⟩⟩
     rw [hc5, cond_false] at hY1
     refine T.skip_code ?_
     refine T.region ?_
     refine T.p2 (vi (IntKind.i64.wrap (x1 + 1))) (vi (IntKind.i64.wrap (x1 + 1))) (fun _ => by kernel_rfl) ?_
     refine T.nil ?_
     cases hY1
     exact fun a w' hf hh => ⟨(IntKind.i64.wrap (x1 + 1)), rfl, V5, (vt hV3 hV5), ((((((Fr.nil hf).pick hf 17 rfl).pick hf 16 rfl).pick hf 15 rfl).pick hf 2 rfl).pick hf 1 rfl), (hh.sub (dr2 (kp1 (kp1 kp0))))⟩
    rw [hc2, cond_false] at hY1
    refine T.exit ?_
    cases hY1
    cases (hr1 _ rfl)
    exact fun a w' hf hh => ⟨rfl, V3, hV3, (Fr.nil hf), (hh.sub (kp1 (kp1 kp0)))⟩
   rintro a w' ⟨rfl, V4, hV4, hf, hh⟩
   try dsimp only at hX2
   refine (?_ : T 32 w V4 t3_ [] _) a w' hf hh
   clear hf hh
   refine T.seq ?_
   refine T.region ?_
   refine T.pk (.bool true) (fun _ => by kernel_rfl) ?_
   refine T.nil ?_
   cases hX2
   refine T.ret rfl ?_
   repeat first | refine T.unthen ?_ | refine T.unblock ?_
   exact T.ret1 rfl (ResIs.tmp rfl) fun w' hh => ⟨_, rfl, ⟨V4, hV4, rfl, (hh.sub (kp1 (kp1 kp0)))⟩⟩
  rintro v w' ⟨V2, hV2, rfl, hh⟩
  refine ⟨V2, t3_, hh, ?_⟩
  clear hh
  refine T.p2 (.bool z2) (.bool z2) (fun _ => by kernel_rfl) ?_
  refine T.nil ?_
  cases hX1
  exact fun a w' hf hh => ⟨V2, hV2, ((Fr.nil hf).pick hf 4 rfl), (hh.sub (dr1 (dr1 kp0)))⟩
 rintro a w' ⟨V1, hV1, hf, hh⟩
 refine (?_ : T 17 w V1 [] [(4, .bool z1)] _) a w' hf hh
 clear hf hh
 cases hF
 refine T.ret rfl ?_
 exact T.ret1 rfl (ResIs.tmp rfl) fun w' hh => ⟨_, rfl, hh.below, (show _ from rfl)⟩
set_option maxRecDepth 100000 in
set_option maxHeartbeats 4000000 in
theorem annalkeep_begun_l (F : Nat) (r : Bool) (hF : annalkeep_begun F = some r) (w : World)  :
 Calls Try.prog 24 #[] w (Post (vSc eBool) r w) := by
 unfold annalkeep_begun at hF
 refine T.start (l := []) Try.func24 rfl rfl rfl ?_
 refine T.seq ?_
 refine T.region ?_
 refine T.pk (.bool false) (fun _ => by kernel_rfl) ?_
 refine T.nil ?_
 refine T.seq ?_
 refine T.region ?_
 obtain ⟨r1, hb1, hF⟩ := ob hF
 refine T.step (W1.call (vAg eElem) r1 16 #[vi 1, .string (ByteArray.mk #[97])] (by kernel_rfl) (fun _ => by kernel_rfl) (fun w' hh => annalkeep_at1_l 1 (ByteArray.mk #[97]) r1 hb1 w' ) ?_)
 intro u V1 hV1 hu
 obtain rfl := sureElem _ _ _ hu
 refine T.step (W1.new 28 [vi r1.key.pfs, vi r1.key.obj, vi r1.key.off, vi r1.made, vi r1.gone, .string r1.val] (fun b => .slice (some ⟨b, 0, none⟩) 1 1) (by kernel_rfl) (fun _ => by kernel_rfl) (fun b1 => ?_))
 obtain ⟨r2, hb2, hF⟩ := ob hF
 refine T.step (W1.call (vAg eTree) r2 15 #[.slice (some ⟨b1, 0, none⟩) 1 1] (by kernel_rfl) (fun _ => by kernel_rfl) (fun w' hh => annalkeep_of_l F [r1] r2 hb2 w' (some ⟨b1, 0, none⟩) 1 (slok_lit (E := eElem) (f := DElem.cells) [r1] (fun _ _ => rfl) (Nat.le_of_ble_eq_true (by rfl)) (fun j => hh.cellBox (i := 0) (by rfl) j))) ?_)
 intro u V2 hV2 hu
 obtain ⟨cs1, rfl, hr1⟩ := vagg_elim hu
 obtain ⟨A1, c1, rfl, hs1⟩ := hr1
 obtain ⟨r3, hb3, hF⟩ := ob hF
 refine T.step (W1.call (vT2 (vSc (eList eElem)) (vSc eInt)) r3 17 #[.agg #[vi r2.root, .slice A1 r2.nodes.length c1]] (by kernel_rfl) (fun _ => by kernel_rfl) (fun w' hh => tree_All_l F r2 r3 hb3 w' A1 c1 (SlOk.mono (SlOk.mono hs1 (vt (made_le _ _) vr)) hh.view)) ?_)
 intro u V3 hV3 hu
 obtain ⟨u1, u2, rfl, hu1, hu2⟩ := vT2_elim hu
 obtain ⟨A2, c2, rfl, hs2⟩ := vlist_elim hu1
 obtain rfl := sureInt _ _ _ hu2
 refine T.p5 (.tuple #[.slice A2 r3.1.length c2, vi r3.2]) (.slice A2 r3.1.length c2) (vi r3.2) (.slice A2 r3.1.length c2) (vi r3.2) (fun _ => by kernel_rfl) ?_
 refine T.nil ?_
 obtain ⟨z1, hX1, hF⟩ := ob hF
 refine T.cut (fun a w' => ∃ (V4 : View), View.le V3 V4 ∧ Fr 18 [(0, .bool z1)] a ∧ Hp w V4 [] w') ?_ ?_
 ·
  refine T.region ?_
  refine T.p3 (vi r3.2) (.bool (r3.2 == 0)) (.bool (r3.2 == 0)) (fun _ => by kernel_rfl) ?_
  cases hg1 : (r3.2 == 0)
  ·
   skip
   rw [hg1, cond_false] at hX1
   refine T.pass (by kernel_rfl) (by kernel_rfl) ?_
   refine T.pass (by kernel_rfl) (by kernel_rfl) ?_
   refine T.pass (by kernel_rfl) (by kernel_rfl) ?_
   refine T.pass (by kernel_rfl) (by kernel_rfl) ?_
   refine T.p2 (.bool false) (.bool false) (fun _ => by kernel_rfl) ?_
   refine T.nil ?_
   cases hX1
   exact fun a w' hf hh => ⟨V3, vr, ((Fr.nil hf).pick hf 0 rfl), (hh.sub (dr1 kp0))⟩
  skip
  rw [hg1, cond_true] at hX1
  refine T.pk (.slice A2 r3.1.length c2) (fun _ => by kernel_rfl) ?_
  obtain ⟨r4, hb4, hX1⟩ := ob hX1
  refine T.step (W1.call (vAg eElem) r4 16 #[vi 1, .string (ByteArray.mk #[97])] (by kernel_rfl) (fun _ => by kernel_rfl) (fun w' hh => annalkeep_at1_l 1 (ByteArray.mk #[97]) r4 hb4 w' ) ?_)
  intro u V5 hV5 hu
  obtain rfl := sureElem _ _ _ hu
  refine T.step (W1.new 28 [vi r4.key.pfs, vi r4.key.obj, vi r4.key.off, vi r4.made, vi r4.gone, .string r4.val] (fun b => .slice (some ⟨b, 0, none⟩) 1 1) (by kernel_rfl) (fun _ => by kernel_rfl) (fun b2 => ?_))
  obtain ⟨r5, hb5, hX1⟩ := ob hX1
  refine T.step (W1.call (vSc eBool) r5 18 #[.slice A2 r3.1.length c2, .slice (some ⟨b2, 0, none⟩) 1 1] (by kernel_rfl) (fun _ => by kernel_rfl) (fun w' hh => slices_Equal_Elem_l F r3.1 [r4] r5 hb5 w' A2 c2 (SlOk.mono (SlOk.mono hs2 (vt (made_le _ _) hV5)) hh.view) (some ⟨b2, 0, none⟩) 1 (slok_lit (E := eElem) (f := DElem.cells) [r4] (fun _ _ => rfl) (Nat.le_of_ble_eq_true (by rfl)) (fun j => hh.cellBox (i := 0) (by rfl) j))) ?_)
  intro u V6 hV6 hu
  obtain rfl := sureBool _ _ _ hu
  refine T.p2 (.bool r5) (.bool r5) (fun _ => by kernel_rfl) ?_
  refine T.nil ?_
  cases hX1
  exact fun a w' hf hh => ⟨V6, (vt hV5 hV6), ((Fr.nil hf).pick hf 0 rfl), (hh.sub (dr1 (dr1 kp0)))⟩
 rintro a w' ⟨V4, hV4, hf, hh⟩
 refine (?_ : T 18 w V4 [] [(0, .bool z1)] _) a w' hf hh
 clear hf hh
 cases hF
 refine T.ret rfl ?_
 exact T.ret1 rfl (ResIs.tmp rfl) fun w' hh => ⟨_, rfl, hh.below, (show _ from rfl)⟩
end Go.Proofs.Ytcmkdoahkncakaa
