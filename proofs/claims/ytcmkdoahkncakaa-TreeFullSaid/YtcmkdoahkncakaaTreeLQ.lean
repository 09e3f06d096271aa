/- The Go functions of group Tree compute the pure functions of that group: written by walkgen.py. Condition of each: the pure function yields a result. -/
import Derived.Test.YtcmkdoahkncakaaSh2Q
import Derived.Test.YtcmkdoahkncakaaNodeLQ
import Derived.Test.YtcmkdoahkncakaaRangeQ
import Derived.Test.YtcmkdoahkncakaaClearQ
import Derived.Test.YtcmkdoahkncakaaTreeFQ
import Derived.Test.YtcmkdoahkncakaaEqLQ
namespace Go.Proofs.Ytcmkdoahkncakaa
set_option linter.unusedVariables false
set_option linter.defProp false
def ipTreeL_1 := info_parts (P := Try.prog) (e := 4) (z := .bool false) (size := 1) (bytes := 1) (by kernel_rfl)
def ipTreeL_2 := info_parts (P := Try.prog) (e := 28) (z := .agg #[.int .i64 0, .int .i64 0, .int .i64 0, .int .i64 0, .int .i64 0, .string (ByteArray.mk #[])]) (size := 6) (bytes := 56) (by kernel_rfl)
set_option maxRecDepth 100000 in
set_option maxHeartbeats 4000000 in
theorem tree_Check_l (F : Nat) (p0 : DTree) (r : Int) (hF : tree_Check F p0 = some r) (w : World) (A1 : Option Addr) (c1 : Nat) (hs1 : SlOk (vw w) eNode A1 c1 p0.nodes) :
 Calls Try.prog 47 #[.agg #[.int .i64 p0.root, .slice A1 p0.nodes.length c1]] w (Post (vSc eInt) r w) := by
 unfold tree_Check at hF
 refine T.start (l := [.agg #[vi p0.root, .slice A1 p0.nodes.length c1]]) Try.func47 rfl rfl rfl ?_
 refine T.seq (T.region ?_)
 let v47_ : List Value := [vi p0.root, .slice A1 p0.nodes.length c1]
 refine T.step (W1.np 24 v47_ (fun _ => by kernel_rfl) (fun b1 => ?_))
 refine T.pk (vi 0) (fun _ => by kernel_rfl) (T.nil (T.seq (T.seq (T.region (T.pk (pB b1 1) (fun _ => by kernel_rfl) (T.look (.slice A1 p0.nodes.length c1) (by kernel_rfl) (ld1 0 rfl rfl (fun _ => by kernel_rfl) (by rfl) rfl) ?_))))))
 refine T.p2 (vi (p0.nodes.length : Int)) (.bool (decide ((400 : Int) < (p0.nodes.length : Int)))) (fun _ => by kernel_rfl) (T.nil ?_)
 refine T.cond (decide ((400 : Int) < (p0.nodes.length : Int))) (by kernel_rfl) (by kernel_rfl) (fun hc1 => ?_) (fun hc1 => ?_)
 ·
  rw [hc1, cond_true] at hF
  refine T.seq (T.region (T.pk (vi 2) (fun _ => by kernel_rfl) (T.nil ?_)))
  cases hF
  refine T.ret rfl ?_
  exact T.ret1 rfl (ResIs.tmp rfl) fun w' hh => ⟨_, rfl, hh.below, (show _ from rfl)⟩
 rw [hc1, cond_false] at hF
 refine T.skip_code ?_
 refine T.seq (T.seq (T.region (T.pk (pB b1 1) (fun _ => by kernel_rfl) (T.look (.slice A1 p0.nodes.length c1) (by kernel_rfl) (ld1 0 rfl rfl (fun _ => by kernel_rfl) (by rfl) rfl) ?_))))
 refine T.p2 (vi (p0.nodes.length : Int)) (vi 0) (fun _ => by kernel_rfl) (T.nil ?_)
 obtain ⟨q1, hz1, hF⟩ := ob hF
 let i1_ : HObj := box b1 24 v47_
 refine T.mid (fun a w' => q1 = Sum.inl () ∧ ∃ (V2 : View), View.le (vw w) V2 ∧ Fr 66 [(1, pB b1 0)] a ∧ Hp w V2 (i1_ :: []) w') ?_ ?_
 ·
  refine T.block ?_
  refine T.iter (fun x1 a w' => ∃ (V1 : View), View.le (vw w) V1 ∧ Fr 66 [(1, pB b1 0), (14, .slice A1 p0.nodes.length c1), (15, vi (p0.nodes.length : Int)), (16, vi x1)] a ∧ Hp w V1 (i1_ :: []) w') hz1 ?_ ?_
  ·
   exact fun a w' hf hh => ⟨(vw w), vr, (Fr.sel hf rfl), (hh.sub (kp1 kp0))⟩
  rintro x1 y1 hY1 hr1 a w' ⟨V1, hV1, hf, hh⟩
  refine (?_ : T 66 w V1 (i1_ :: []) [(1, pB b1 0), (14, .slice A1 p0.nodes.length c1), (15, vi (p0.nodes.length : Int)), (16, vi x1)] _) a w' hf hh
  clear hf hh
  try dsimp only at hY1
  refine T.seq (T.region (T.pk (.bool (decide (x1 < (p0.nodes.length : Int)))) (fun _ => by kernel_rfl) (T.nil (T.seq ?_))))
  refine T.cond (decide (x1 < (p0.nodes.length : Int))) (by kernel_rfl) (by kernel_rfl) (fun hc2 => ?_) (fun hc2 => ?_)
  ·
   rw [hc2, cond_true] at hY1
   refine T.skip_code ?_
   refine T.seq (T.block (T.seq (T.region ?_)))
   obtain ⟨e1, hb1, hY1⟩ := ob hY1
   obtain ⟨hi1, hi2, hi3⟩ := idx_some hb1
   obtain ⟨cs1, hr2, hc3⟩ := SlOk.elem (SlOk.mono hs1 hV1) hi3
   obtain ⟨A2, c2, A3, c3, A4, c4, A5, c5, rfl, hs2, hs3, hs4, hs5⟩ := hr2
   refine T.look (.pointer (some ((sadr A1).add (x1.toNat * 5)))) (by kernel_rfl) (fun w' hh => exec_indexAddr (e := 97) (s := 5) rfl rfl rfl (by kernel_rfl) (by kernel_rfl) hi1 hi2 ((SlOk.mono hs1 hV1).some_ hi3 (by decide))) ?_
   let v48_ : List Value := [vi e1.kind, .slice A2 e1.elems.length c2, .slice A3 e1.kids.length c3, .slice A4 e1.seps.length c4, .slice A5 e1.tids.length c5]
   let a69_ : Value := .agg #[vi e1.kind, .slice A2 e1.elems.length c2, .slice A3 e1.kids.length c3, .slice A4 e1.seps.length c4, .slice A5 e1.tids.length c5]
   refine T.look a69_ (by kernel_rfl) (fun w' hh => exec_loadN (cs := v48_) rfl rfl (by kernel_rfl) (by kernel_rfl) (fun j u hj => hh.cell_view (View.cell_mono vr (hc3 j u hj).2))) ?_
   refine T.step (W1.np 97 [vi 0, sN, sN, sN, sN] (fun _ => by kernel_rfl) (fun b2 => ?_))
   refine T.step (W1.st 0 v48_ ((box b2 97 v48_) :: i1_ :: []) v48_ (by rfl) rfl rfl rfl rfl rfl rfl (fun _ => by kernel_rfl) ?_)
   refine T.nil (T.seq (T.region (T.look a69_ (by kernel_rfl) (ldN 0 rfl rfl (fun _ => by kernel_rfl) (by rfl) rfl) ?_)))
   obtain ⟨r1, hb2, hY1⟩ := ob hY1
   refine T.step (W1.call (vSc eInt) r1 73 #[a69_] (by kernel_rfl) (fun _ => by kernel_rfl) (fun w' hh => node_Check_l F e1 r1 hb2 w' A2 c2 (SlOk.mono hs2 hh.view) A3 c3 (SlOk.mono hs3 hh.view) A4 c4 (SlOk.mono hs4 hh.view) A5 c5 (SlOk.mono hs5 hh.view)) ?_)
   intro u V3 hV3 hu
   obtain rfl := sureInt _ _ _ hu
   refine T.pk (vi r1) (fun _ => by kernel_rfl) (T.nil (T.seq (T.region (T.p2 (vi r1) (.bool (r1 != 0)) (fun _ => by kernel_rfl) (T.nil ?_)))))
   refine T.cond (r1 != 0) (by kernel_rfl) (by kernel_rfl) (fun hc4 => ?_) (fun hc4 => ?_)
   ·
    rw [hc4, cond_true] at hY1
    refine T.seq (T.region (T.p2 (vi r1) (vi r1) (fun _ => by kernel_rfl) (T.nil ?_)))
    cases hY1
    cases (hr1 _ rfl)
    try dsimp only at hF
    cases hF
    refine T.ret rfl ?_
    exact T.ret1 rfl (ResIs.tmp rfl) fun w' hh => ⟨_, rfl, hh.below, (show _ from rfl)⟩
   rw [hc4, cond_false] at hY1
   refine T.skip_code ?_
   refine T.region (T.p2 (vi (IntKind.i64.wrap (x1 + 1))) (vi (IntKind.i64.wrap (x1 + 1))) (fun _ => by kernel_rfl) (T.nil ?_))
   cases hY1
   exact fun a w' hf hh => ⟨(IntKind.i64.wrap (x1 + 1)), rfl, V3, (vt hV1 hV3), (Fr.sel hf rfl), (hh.sub (dr1 (kp1 kp0)))⟩
  rw [hc2, cond_false] at hY1
  refine T.exit ?_
  cases hY1
  cases (hr1 _ rfl)
  exact fun a w' hf hh => ⟨rfl, V1, hV1, (Fr.sel hf rfl), (hh.sub (kp1 kp0))⟩
 rintro a w' ⟨rfl, V2, hV2, hf, hh⟩
 try dsimp only at hF
 refine (?_ : T 66 w V2 (i1_ :: []) [(1, pB b1 0)] _) a w' hf hh
 clear hf hh
 refine T.seq ?_
 refine T.held (i1_ :: []) (by kernel_rfl) ?_
 refine TA.keep (Hp.old vr hV2 (kp1 kp0) (oB1 ol0)) fun o79_ => ?_
 refine TA.tk 0 (.agg #[vi p0.root, .slice A1 p0.nodes.length c1]) rfl (by kernel_rfl) (fun _ _ _ h => h) o79_ (ldN 0 rfl rfl (fun _ => by kernel_rfl) (by rfl) rfl) ?_
 refine TA.tp 1 (pB b1 1) rfl (fun _ => by kernel_rfl) (fun _ _ _ h => h) o79_ ?_
 refine TA.tk 2 (.slice A1 p0.nodes.length c1) rfl (by kernel_rfl) (fun _ _ _ h => h) o79_ (ld1 0 rfl rfl (fun _ => by kernel_rfl) (by rfl) rfl) ?_
 refine TA.tp 3 (vi (p0.nodes.length : Int)) rfl (fun _ => by kernel_rfl) (fun _ _ _ h => h) o79_ ?_
 refine TA.all [4] (by kernel_rfl) rfl ⟨?_, trivial⟩
 obtain ⟨u1, hb3, hF⟩ := ob hF
 obtain ⟨ti, hti, hz1, hz2, hz3⟩ := ipTreeL_1
 obtain ⟨hb3_n, hb3_r, hb3_m⟩ := makes_some hb3
 refine TA.br rfl (W1.make (E := eBool) ((p0.nodes.length : Int).toNat) (false : Bool) _ _ .i64 .i64 1 ti _ (by kernel_rfl) rfl (by kernel_rfl) hti hz1 hz2 hz3 (congrArg (Value.int _) hb3_n.symm) (congrArg (Value.int _) hb3_n.symm) (fun _ => rfl) rfl hb3_r hb3_m (fun A6 => ?_))
 refine TA.onk (Hp.old vr hV2 (dr1 (kp1 kp0)) (oB1 ol0)) fun o80_ => ?_
 refine TA.tp 5 (.agg #[vi p0.root, .slice A1 p0.nodes.length c1, .slice A6 ((List.replicate ((p0.nodes.length : Int).toNat) (false : Bool)).length) ((p0.nodes.length : Int).toNat), vi (-1), vi 0]) rfl (fun _ => by kernel_rfl) (fun _ _ _ h => h) o80_ ?_
 refine TA.all [6] (by kernel_rfl) rfl ⟨?_, trivial⟩
 refine TA.br rfl (W1.np 128 [vi p0.root, .slice A1 p0.nodes.length c1, .slice A6 ((List.replicate ((p0.nodes.length : Int).toNat) (false : Bool)).length) ((p0.nodes.length : Int).toNat), vi (-1), vi 0] (fun _ => by kernel_rfl) (fun b3 => ?_))
 refine TA.onk (Hp.old vr hV2 (dr2 (kp1 kp0)) (oB1 ol0)) fun o81_ => ?_
 refine TA.tp 7 (pB b3 0) rfl (fun _ => by kernel_rfl) (fun _ _ _ h => h) o81_ ?_
 refine TA.done (by kernel_rfl) ?_
 refine T.seq (T.region (T.p2 (pB b3 0) (pB b1 0) (fun _ => by kernel_rfl) (T.look (vi p0.root) (by kernel_rfl) (ld1 2 rfl rfl (fun _ => by kernel_rfl) (by rfl) rfl) ?_)))
 let a70_ : Value := .agg #[vi 0, vi 0, vi 0, vi 0, vi 0, vi 0, vi 0, vi 0, .bool false, .bool false]
 refine T.pk a70_ (fun _ => by kernel_rfl) ?_
 obtain ⟨q2, hz2, hF⟩ := ob hF
 refine (have hq1 := fix_rec (fun (s_ : (List Bool) × Int × Int × Int × Int × Int × Int × Int × Int × Int × Int × Int × Int × Bool × Bool) (r_ : (List Bool) × Int × Int × Int) => ∀ (x2 : List Bool) (x3 : Int) (x4 : Int) (x5 : Int) (x6 : Int) (x7 : Int) (x8 : Int) (x9 : Int) (x10 : Int) (x11 : Int) (x12 : Int) (x13 : Int) (x14 : Int) (x15 : Bool) (x16 : Bool), s_ = (x2, x3, x4, x5, x6, x7, x8, x9, x10, x11, x12, x13, x14, x15, x16) → ∀ (V4 : View) (G1 : List HObj) (w1 : World), View.le V2 V4 → Hp w V4 ((box b3 128 [vi p0.root, .slice A1 p0.nodes.length c1, .slice A6 x2.length ((p0.nodes.length : Int).toNat), vi x3, vi x4]) :: (row 4 eBool A6 ((p0.nodes.length : Int).toNat) x2) :: G1) w1 → Calls Try.prog 74 #[pB b3 0, vi x5, vi x6, .agg #[vi x7, vi x8, vi x9, vi x10, vi x11, vi x12, vi x13, vi x14, .bool x15, .bool x16]] w1 (fun e w2 => ∃ v, e = .returned v ∧ ∃ (z1 : List Bool) (z2 : Int) (z3 : Int) (z4 : Int), r_ = (z1, z2, z3, z4) ∧ ∃ (V5 : View), View.le V4 V5 ∧ v = vi z4 ∧ Hp w V5 ((box b3 128 [vi p0.root, .slice A1 p0.nodes.length c1, .slice A6 z1.length ((p0.nodes.length : Int).toNat), vi z2, vi z3]) :: (row 4 eBool A6 ((p0.nodes.length : Int).toNat) z1) :: G1) w2)) hz2 ?_; ?_)
 ·
  rintro rf1 ih1 s_ r_ hS1 x2 x3 x4 x5 x6 x7 x8 x9 x10 x11 x12 x13 x14 x15 x16 rfl V4 G1 w1 hV4 hh
  try dsimp only at hS1
  let a71_ : Value := .agg #[vi x7, vi x8, vi x9, vi x10, vi x11, vi x12, vi x13, vi x14, .bool x15, .bool x16]
  refine T.startI (l := [pB b3 0, vi x5, vi x6, a71_]) Try.func74 rfl rfl rfl ?_ hh
  clear hh
  refine T.seq (T.region ?_)
  let v49_ : List Value := [vi x7, vi x8, vi x9, vi x10, vi x11, vi x12, vi x13, vi x14, .bool x15, .bool x16]
  refine T.step (W1.np 131 v49_ (fun _ => by kernel_rfl) (fun b4 => ?_))
  refine T.pk (vi 0) (fun _ => by kernel_rfl) (T.nil (T.seq (T.seq (T.region (T.p3 (pB b3 0) (pB b3 0) (pB b3 4) (fun _ => by kernel_rfl) (T.look (vi x4) (by kernel_rfl) (ld1 1 rfl rfl (fun _ => by kernel_rfl) (by rfl) rfl) ?_))))))
  refine T.pk (.bool (x4 != 0)) (fun _ => by kernel_rfl) (T.nil ?_)
  refine T.cond (x4 != 0) (by kernel_rfl) (by kernel_rfl) (fun hc5 => ?_) (fun hc5 => ?_)
  ·
   rw [hc5, cond_true] at hS1
   refine T.seq (T.region (T.pk (vi 0) (fun _ => by kernel_rfl) (T.nil ?_)))
   have hres := Option.some.inj hS1
   subst hres
   refine T.ret rfl ?_
   repeat first | refine T.unthen ?_ | refine T.unblock ?_
   exact T.ret1 rfl (ResIs.tmp rfl) fun w' hh => ⟨_, rfl, ⟨x2, x3, x4, 0, rfl, V4, vr, rfl, (hh.sub (dr1 (kp1 (kp1 kpr))))⟩⟩
  rw [hc5, cond_false] at hS1
  refine T.skip_code ?_
  refine T.seq ?_
  obtain ⟨z5, hX1, hS1⟩ := ob hS1
  let i2_ : HObj := box b4 131 v49_
  let i3_ : HObj := box b3 128 [vi p0.root, .slice A1 p0.nodes.length c1, .slice A6 x2.length ((p0.nodes.length : Int).toNat), vi x3, vi x4]
  let i4_ : HObj := row 4 eBool A6 ((p0.nodes.length : Int).toNat) x2
  refine T.cut (fun a w' => Fr 175 [(0, pB b3 0), (1, vi x5), (2, vi x6), (7, pB b4 0), (52, .bool z5)] a ∧ Hp w V4 (i2_ :: i3_ :: i4_ :: G1) w') ?_ ?_
  ·
   refine T.region (T.p3 (vi x5) (.bool (decide (x5 < 0))) (.bool (decide (x5 < 0))) (fun _ => by kernel_rfl) ?_)
   cases hg1 : decide (x5 < 0)
   ·
    skip
    rw [hg1, cond_false] at hX1
    refine T.p5 (vi x5) (pB b3 0) (pB b3 0) (pB b3 0) (pB b3 1) (fun _ => by kernel_rfl) (T.look (.slice A1 p0.nodes.length c1) (by kernel_rfl) (ld1 1 rfl rfl (fun _ => by kernel_rfl) (by rfl) rfl) ?_)
    refine T.p4 (vi (p0.nodes.length : Int)) (.bool (decide ((p0.nodes.length : Int) ≤ x5))) (.bool (decide ((p0.nodes.length : Int) ≤ x5))) (.bool (decide ((p0.nodes.length : Int) ≤ x5))) (fun _ => by kernel_rfl) ?_
    cases hg2 : decide ((p0.nodes.length : Int) ≤ x5)
    ·
     skip
     rw [hg2, cond_false] at hX1
     refine T.p3 (pB b3 0) (pB b3 0) (pB b3 2) (fun _ => by kernel_rfl) (T.look (.slice A6 x2.length ((p0.nodes.length : Int).toNat)) (by kernel_rfl) (ld1 1 rfl rfl (fun _ => by kernel_rfl) (by rfl) rfl) ?_)
     refine T.pk (vi x5) (fun _ => by kernel_rfl) ?_
     obtain ⟨e2, hb4, hX1⟩ := ob hX1
     obtain ⟨hi4, hi5, hi6⟩ := idx_some hb4
     refine T.look (.pointer (some ((sadr A6).add (x5.toNat * 1)))) (by kernel_rfl) (ixR 2 (e := 4) (s := 1) rfl rfl rfl (fun _ => by kernel_rfl) hi4 hi5 (by rfl) hi6 (by decide)) ?_
     refine T.look (.bool e2) (by kernel_rfl) (fun w' hh => exec_load1 rfl rfl (by kernel_rfl) (SlOk.wcellF0 (E := eBool) (hh.row_slOk (i := 2) (by rfl)) hi6 (fun _ _ _ h => h) rfl)) ?_
     refine T.p2 (.bool e2) (.bool e2) (fun _ => by kernel_rfl) ?_
     cases hg3 : e2
     ·
      skip
      rw [hg3, cond_false] at hX1
      refine T.p4 (pB b3 0) (pB b3 0) (pB b3 0) (pB b3 1) (fun _ => by kernel_rfl) (T.look (.slice A1 p0.nodes.length c1) (by kernel_rfl) (ld1 1 rfl rfl (fun _ => by kernel_rfl) (by rfl) rfl) ?_)
      refine T.pk (vi x5) (fun _ => by kernel_rfl) ?_
      obtain ⟨e3, hb5, hX1⟩ := ob hX1
      obtain ⟨hi7, hi8, hi9⟩ := idx_some hb5
      obtain ⟨cs2, hr3, hc6⟩ := SlOk.elem (SlOk.mono hs1 (vt hV2 hV4)) hi9
      obtain ⟨A7, c6, A8, c7, A9, c8, A10, c9, rfl, hs6, hs7, hs8, hs9⟩ := hr3
      refine T.look (.pointer (some ((sadr A1).add (x5.toNat * 5)))) (by kernel_rfl) (fun w' hh => exec_indexAddr (e := 97) (s := 5) rfl rfl rfl (by kernel_rfl) (by kernel_rfl) hi7 hi8 ((SlOk.mono hs1 (vt hV2 hV4)).some_ hi9 (by decide))) ?_
      refine T.pk (.pointer (some ((sadr A1).add (x5.toNat * 5)))) (fun _ => by kernel_rfl) (T.look (vi e3.kind) (by kernel_rfl) (fun w' hh => exec_load1 rfl rfl (by kernel_rfl) (hh.cell_view (View.cell_mono vr (hc6 0 _ rfl).2))) ?_)
      refine T.p2 (.bool (e3.kind == 0)) (.bool (e3.kind == 0)) (fun _ => by kernel_rfl) (T.nil ?_)
      cases hX1
      exact fun a w' hf hh => ⟨(Fr.sel hf rfl), (hh.sub (kp2 (kp1 kpr)))⟩
     skip
     rw [hg3, cond_true] at hX1
     refine T.pass (by kernel_rfl) (by kernel_rfl) (T.pass (by kernel_rfl) (by kernel_rfl) (T.pass (by kernel_rfl) (by kernel_rfl) (T.pass (by kernel_rfl) (by kernel_rfl) (T.pass (by kernel_rfl) (by kernel_rfl) (T.pass (by kernel_rfl) (by kernel_rfl) (T.pass (by kernel_rfl) (by kernel_rfl) (T.pass (by kernel_rfl) (by kernel_rfl) (T.pass (by kernel_rfl) (by kernel_rfl) (T.pass (by kernel_rfl) (by kernel_rfl) (T.pk (.bool true) (fun _ => by kernel_rfl) (T.nil ?_)))))))))))
     cases hX1
     exact fun a w' hf hh => ⟨(Fr.sel hf rfl), (hh.sub (kp2 (kp1 kpr)))⟩
    skip
    rw [hg2, cond_true] at hX1
    refine T.pass (by kernel_rfl) (by kernel_rfl) (T.pass (by kernel_rfl) (by kernel_rfl) (T.pass (by kernel_rfl) (by kernel_rfl) (T.pass (by kernel_rfl) (by kernel_rfl) (T.pass (by kernel_rfl) (by kernel_rfl) (T.pass (by kernel_rfl) (by kernel_rfl) (T.pass (by kernel_rfl) (by kernel_rfl) (T.p2 (.bool true) (.bool true) (fun _ => by kernel_rfl) (T.pass (by kernel_rfl) (by kernel_rfl) (T.pass (by kernel_rfl) (by kernel_rfl) (T.pass (by kernel_rfl) (by kernel_rfl) (T.pass (by kernel_rfl) (by kernel_rfl) (T.pass (by kernel_rfl) (by kernel_rfl) (T.pass (by kernel_rfl) (by kernel_rfl) (T.pass (by kernel_rfl) (by kernel_rfl) (T.pass (by kernel_rfl) (by kernel_rfl) (T.pass (by kernel_rfl) (by kernel_rfl) (T.pass (by kernel_rfl) (by kernel_rfl) (T.pk (.bool true) (fun _ => by kernel_rfl) (T.nil ?_)))))))))))))))))))
    cases hX1
    exact fun a w' hf hh => ⟨(Fr.sel hf rfl), (hh.sub (kp2 (kp1 kpr)))⟩
   skip
   rw [hg1, cond_true] at hX1
   refine T.pass (by kernel_rfl) (by kernel_rfl) (T.pass (by kernel_rfl) (by kernel_rfl) (T.pass (by kernel_rfl) (by kernel_rfl) (T.pass (by kernel_rfl) (by kernel_rfl) (T.pass (by kernel_rfl) (by kernel_rfl) (T.pass (by kernel_rfl) (by kernel_rfl) (T.pass (by kernel_rfl) (by kernel_rfl) (T.pass (by kernel_rfl) (by kernel_rfl) (T.p2 (.bool true) (.bool true) (fun _ => by kernel_rfl) (T.pass (by kernel_rfl) (by kernel_rfl) (T.pass (by kernel_rfl) (by kernel_rfl) (T.pass (by kernel_rfl) (by kernel_rfl) (T.pass (by kernel_rfl) (by kernel_rfl) (T.pass (by kernel_rfl) (by kernel_rfl) (T.pass (by kernel_rfl) (by kernel_rfl) (T.pass (by kernel_rfl) (by kernel_rfl) (T.p2 (.bool true) (.bool true) (fun _ => by kernel_rfl) (T.pass (by kernel_rfl) (by kernel_rfl) (T.pass (by kernel_rfl) (by kernel_rfl) (T.pass (by kernel_rfl) (by kernel_rfl) (T.pass (by kernel_rfl) (by kernel_rfl) (T.pass (by kernel_rfl) (by kernel_rfl) (T.pass (by kernel_rfl) (by kernel_rfl) (T.pass (by kernel_rfl) (by kernel_rfl) (T.pass (by kernel_rfl) (by kernel_rfl) (T.pass (by kernel_rfl) (by kernel_rfl) (T.pass (by kernel_rfl) (by kernel_rfl) (T.pk (.bool true) (fun _ => by kernel_rfl) (T.nil ?_))))))))))))))))))))))))))))
   cases hX1
   exact fun a w' hf hh => ⟨(Fr.sel hf rfl), (hh.sub (kp2 (kp1 kpr)))⟩
  rintro a w' ⟨hf, hh⟩
  refine (?_ : T 175 w V4 (i2_ :: i3_ :: i4_ :: G1) [(0, pB b3 0), (1, vi x5), (2, vi x6), (7, pB b4 0), (52, .bool z5)] _) a w' hf hh
  clear hf hh
  refine T.cond z5 (by kernel_rfl) (by kernel_rfl) (fun hc7 => ?_) (fun hc7 => ?_)
  ·
   rw [hc7, cond_true] at hS1
   refine T.seq (T.region (T.pk (pB b3 0) (fun _ => by kernel_rfl) ?_))
   obtain ⟨z6, hX2, hS1⟩ := ob hS1
   let i5_ : HObj := box b3 128 [vi p0.root, .slice A1 p0.nodes.length c1, .slice A6 x2.length ((p0.nodes.length : Int).toNat), vi x3, vi z6]
   refine T.step (W1.within 75 [pB b3 0, vi 3] (fun v w' => v = .tuple #[] ∧ Hp w V4 (i5_ :: i4_ :: G1) w') Try.func75 rfl rfl (by kernel_rfl) (fun _ => by kernel_rfl) rfl ?_ ?_)
   ·
    refine T.seq (T.region (T.p3 (pB b3 0) (pB b3 0) (pB b3 4) (fun _ => by kernel_rfl) (T.look (vi x4) (by kernel_rfl) (ld1 1 rfl rfl (fun _ => by kernel_rfl) (by rfl) rfl) ?_)))
    refine T.pk (.bool (x4 == 0)) (fun _ => by kernel_rfl) (T.nil ?_)
    refine T.cond (x4 == 0) (by kernel_rfl) (by kernel_rfl) (fun hc8 => ?_) (fun hc8 => ?_)
    ·
     rw [hc8, cond_true] at hX2
     refine T.region (T.p4 (pB b3 0) (vi 3) (pB b3 0) (pB b3 4) (fun _ => by kernel_rfl) ?_)
     let v50_ : List Value := [vi p0.root, .slice A1 p0.nodes.length c1, .slice A6 x2.length ((p0.nodes.length : Int).toNat), vi x3, vi 3]
     refine T.step (W1.st 1 v50_ (i2_ :: (box b3 128 v50_) :: i4_ :: G1) [vi 3] (by rfl) rfl rfl rfl rfl rfl rfl (fun _ => by kernel_rfl) ?_)
     refine T.nil ?_
     cases hX2
     repeat first | refine T.unthen ?_ | refine T.unblock ?_
     exact T.end0 rfl fun w' hh => ⟨_, rfl, ⟨rfl, (hh.sub (dr1 (kp1 (kp1 kpr))))⟩⟩
    rw [hc8, cond_false] at hX2
    refine T.skip_code ?_
    cases hX2
    repeat first | refine T.unthen ?_ | refine T.unblock ?_
    exact T.end0 rfl fun w' hh => ⟨_, rfl, ⟨rfl, (hh.sub (dr1 (kp1 (kp1 kpr))))⟩⟩
   rintro v w' ⟨rfl, hh⟩
   refine ⟨V4, (i5_ :: i4_ :: G1), hh, ?_⟩
   clear hh
   refine T.nil (T.seq (T.region (T.pk (vi 0) (fun _ => by kernel_rfl) (T.nil ?_))))
   have hres := Option.some.inj hS1
   subst hres
   refine T.ret rfl ?_
   repeat first | refine T.unthen ?_ | refine T.unblock ?_
   exact T.ret1 rfl (ResIs.tmp rfl) fun w' hh => ⟨_, rfl, ⟨x2, x3, z6, 0, rfl, V4, vr, rfl, (hh.sub (kp1 (kp1 kpr)))⟩⟩
  rw [hc7, cond_false] at hS1
  refine T.skip_code ?_
  refine T.seq (T.region (T.p3 (pB b3 0) (pB b3 0) (pB b3 2) (fun _ => by kernel_rfl) (T.look (.slice A6 x2.length ((p0.nodes.length : Int).toNat)) (by kernel_rfl) (ld1 1 rfl rfl (fun _ => by kernel_rfl) (by rfl) rfl) ?_)))
  refine T.pk (vi x5) (fun _ => by kernel_rfl) ?_
  obtain ⟨e4, hb6, hS1⟩ := ob hS1
  obtain ⟨hi10, hi11, hi12⟩ := idx_some hb6
  refine T.look (.pointer (some ((sadr A6).add (x5.toNat * 1)))) (by kernel_rfl) (ixR 2 (e := 4) (s := 1) rfl rfl rfl (fun _ => by kernel_rfl) hi10 hi11 (by rfl) hi12 (by decide)) ?_
  refine T.step (W1.storeRow (E := eBool) 2 (x5.toNat) 0 e4 true _ (vs := [.bool true]) (by rfl) (by kernel_rfl) rfl rfl (addr_add0 _).symm rfl rfl (fun _ => by kernel_rfl) (one_of rfl) hi12 (Nat.le_of_ble_eq_true (by kernel_rfl)) (fun _ _ h => by cases h; rfl) ?_)
  refine T.reslot 58 (.slice A6 ((x2.set x5.toNat true).length) ((p0.nodes.length : Int).toNat)) rfl (by simp +zetaDelta only [List.length_set]) ?_
  let i6_ : HObj := box b3 128 [vi p0.root, .slice A1 p0.nodes.length c1, .slice A6 ((x2.set x5.toNat true).length) ((p0.nodes.length : Int).toNat), vi x3, vi x4]
  let i7_ : HObj := row 4 eBool A6 ((p0.nodes.length : Int).toNat) (x2.set x5.toNat true)
  let t8_ : List HObj := i6_ :: i7_ :: G1
  let t9_ : List HObj := i2_ :: t8_
  refine T.reH (H' := t9_) (by first | (simp +zetaDelta only [List.length_set]; done) | (simp +zetaDelta only [List.length_set]; rfl)) ?_
  refine T.nil (T.seq (T.region (T.p4 (pB b3 0) (pB b3 0) (pB b3 0) (pB b3 1) (fun _ => by kernel_rfl) (T.look (.slice A1 p0.nodes.length c1) (by kernel_rfl) (ld1 1 rfl rfl (fun _ => by kernel_rfl) (by rfl) rfl) ?_))))
  refine T.pk (vi x5) (fun _ => by kernel_rfl) ?_
  obtain ⟨e5, hb7, hS1⟩ := ob hS1
  obtain ⟨hi13, hi14, hi15⟩ := idx_some hb7
  obtain ⟨cs3, hr4, hc9⟩ := SlOk.elem (SlOk.mono hs1 (vt hV2 hV4)) hi15
  obtain ⟨A11, c10, A12, c11, A13, c12, A14, c13, rfl, hs10, hs11, hs12, hs13⟩ := hr4
  refine T.look (.pointer (some ((sadr A1).add (x5.toNat * 5)))) (by kernel_rfl) (fun w' hh => exec_indexAddr (e := 97) (s := 5) rfl rfl rfl (by kernel_rfl) (by kernel_rfl) hi13 hi14 ((SlOk.mono hs1 (vt hV2 hV4)).some_ hi15 (by decide))) ?_
  let v51_ : List Value := [vi e5.kind, .slice A11 e5.elems.length c10, .slice A12 e5.kids.length c11, .slice A13 e5.seps.length c12, .slice A14 e5.tids.length c13]
  let a72_ : Value := .agg #[vi e5.kind, .slice A11 e5.elems.length c10, .slice A12 e5.kids.length c11, .slice A13 e5.seps.length c12, .slice A14 e5.tids.length c13]
  refine T.look a72_ (by kernel_rfl) (fun w' hh => exec_loadN (cs := v51_) rfl rfl (by kernel_rfl) (by kernel_rfl) (fun j u hj => hh.cell_view (View.cell_mono vr (hc9 j u hj).2))) ?_
  refine T.step (W1.np 97 [vi 0, sN, sN, sN, sN] (fun _ => by kernel_rfl) (fun b5 => ?_))
  let i10_ : HObj := box b5 97 v51_
  let t11_ : List HObj := i10_ :: t9_
  refine T.step (W1.st 0 v51_ t11_ v51_ (by rfl) rfl rfl rfl rfl rfl rfl (fun _ => by kernel_rfl) ?_)
  refine T.nil ?_
  obtain ⟨z7, hX3, hS1⟩ := ob hS1
  let i12_ : HObj := box b3 128 [vi p0.root, .slice A1 p0.nodes.length c1, .slice A6 ((x2.set x5.toNat true).length) ((p0.nodes.length : Int).toNat), vi x3, vi z7]
  refine T.cut (fun a w' => Fr 175 [(0, pB b3 0), (2, vi x6), (7, pB b4 0), (9, pB b5 0)] a ∧ Hp w V4 (i10_ :: i2_ :: i12_ :: i7_ :: G1) w') ?_ ?_
  ·
   refine T.cut (fun a w' => Fr 175 [(0, pB b3 0), (2, vi x6), (7, pB b4 0), (9, pB b5 0), (80, .bool ((decide ((0 : Int) < x6)) && (decide ((IntKind.i64.wrap ((e5.elems.length : Int) + (e5.kids.length : Int))) < 4))))] a ∧ Hp w V4 t11_ w') ?_ ?_
   ·
    refine T.region (T.p3 (vi x6) (.bool (decide ((0 : Int) < x6))) (.bool (decide ((0 : Int) < x6))) (fun _ => by kernel_rfl) ?_)
    cases hg4 : decide ((0 : Int) < x6)
    ·
     skip
     refine T.pass (by kernel_rfl) (by kernel_rfl) (T.pass (by kernel_rfl) (by kernel_rfl) (T.pass (by kernel_rfl) (by kernel_rfl) (T.pass (by kernel_rfl) (by kernel_rfl) (T.pass (by kernel_rfl) (by kernel_rfl) (T.pass (by kernel_rfl) (by kernel_rfl) (T.pass (by kernel_rfl) (by kernel_rfl) (T.pass (by kernel_rfl) (by kernel_rfl) (T.pk (.bool false) (fun _ => by kernel_rfl) (T.nil ?_)))))))))
     exact fun a w' hf hh => ⟨(Fr.sel hf rfl), (hh.sub (kp3 (kp1 kpr)))⟩
    skip
    refine T.pk (pB b5 1) (fun _ => by kernel_rfl) (T.look (.slice A11 e5.elems.length c10) (by kernel_rfl) (ld1 0 rfl rfl (fun _ => by kernel_rfl) (by rfl) rfl) ?_)
    refine T.p2 (vi (e5.elems.length : Int)) (pB b5 2) (fun _ => by kernel_rfl) (T.look (.slice A12 e5.kids.length c11) (by kernel_rfl) (ld1 0 rfl rfl (fun _ => by kernel_rfl) (by rfl) rfl) ?_)
    refine T.p4 (vi (e5.kids.length : Int)) (vi (IntKind.i64.wrap ((e5.elems.length : Int) + (e5.kids.length : Int)))) (.bool (decide ((IntKind.i64.wrap ((e5.elems.length : Int) + (e5.kids.length : Int))) < 4))) (.bool (decide ((IntKind.i64.wrap ((e5.elems.length : Int) + (e5.kids.length : Int))) < 4))) (fun _ => by kernel_rfl) (T.nil ?_)
    exact fun a w' hf hh => ⟨(Fr.sel hf rfl), (hh.sub (kp3 (kp1 kpr)))⟩
   rintro a w' ⟨hf, hh⟩
   refine (?_ : T 175 w V4 t11_ [(0, pB b3 0), (2, vi x6), (7, pB b4 0), (9, pB b5 0), (80, .bool ((decide ((0 : Int) < x6)) && (decide ((IntKind.i64.wrap ((e5.elems.length : Int) + (e5.kids.length : Int))) < 4))))] _) a w' hf hh
   clear hf hh
   refine T.cond ((decide ((0 : Int) < x6)) && (decide ((IntKind.i64.wrap ((e5.elems.length : Int) + (e5.kids.length : Int))) < 4))) (by kernel_rfl) (by kernel_rfl) (fun hc10 => ?_) (fun hc10 => ?_)
   ·
    rw [hc10, cond_true] at hX3
    refine T.region (T.pk (pB b3 0) (fun _ => by kernel_rfl) ?_)
    obtain ⟨z8, hX4, hX3⟩ := ob hX3
    let i13_ : HObj := box b3 128 [vi p0.root, .slice A1 p0.nodes.length c1, .slice A6 ((x2.set x5.toNat true).length) ((p0.nodes.length : Int).toNat), vi x3, vi z8]
    refine T.step (W1.within 75 [pB b3 0, vi 3] (fun v w' => v = .tuple #[] ∧ Hp w V4 (i10_ :: i2_ :: i13_ :: i7_ :: G1) w') Try.func75 rfl rfl (by kernel_rfl) (fun _ => by kernel_rfl) rfl ?_ ?_)
    ·
     refine T.seq (T.region (T.p3 (pB b3 0) (pB b3 0) (pB b3 4) (fun _ => by kernel_rfl) (T.look (vi x4) (by kernel_rfl) (ld1 2 rfl rfl (fun _ => by kernel_rfl) (by rfl) rfl) ?_)))
     refine T.pk (.bool (x4 == 0)) (fun _ => by kernel_rfl) (T.nil ?_)
     refine T.cond (x4 == 0) (by kernel_rfl) (by kernel_rfl) (fun hc11 => ?_) (fun hc11 => ?_)
     ·
      rw [hc11, cond_true] at hX4
      refine T.region (T.p4 (pB b3 0) (vi 3) (pB b3 0) (pB b3 4) (fun _ => by kernel_rfl) ?_)
      let v52_ : List Value := [vi p0.root, .slice A1 p0.nodes.length c1, .slice A6 ((x2.set x5.toNat true).length) ((p0.nodes.length : Int).toNat), vi x3, vi 3]
      refine T.step (W1.st 2 v52_ (i10_ :: i2_ :: (box b3 128 v52_) :: i7_ :: G1) [vi 3] (by rfl) rfl rfl rfl rfl rfl rfl (fun _ => by kernel_rfl) ?_)
      refine T.nil ?_
      cases hX4
      repeat first | refine T.unthen ?_ | refine T.unblock ?_
      exact T.end0 rfl fun w' hh => ⟨_, rfl, ⟨rfl, (hh.sub (kp3 (kp1 kpr)))⟩⟩
     rw [hc11, cond_false] at hX4
     refine T.skip_code ?_
     cases hX4
     repeat first | refine T.unthen ?_ | refine T.unblock ?_
     exact T.end0 rfl fun w' hh => ⟨_, rfl, ⟨rfl, (hh.sub (kp3 (kp1 kpr)))⟩⟩
    rintro v w' ⟨rfl, hh⟩
    refine ⟨V4, (i10_ :: i2_ :: i13_ :: i7_ :: G1), hh, ?_⟩
    clear hh
    refine T.nil ?_
    cases hX3
    exact fun a w' hf hh => ⟨(Fr.sel hf rfl), (hh.sub (kp3 (kp1 kpr)))⟩
   rw [hc10, cond_false] at hX3
   refine T.skip_code ?_
   cases hX3
   exact fun a w' hf hh => ⟨(Fr.sel hf rfl), (hh.sub (kp3 (kp1 kpr)))⟩
  rintro a w' ⟨hf, hh⟩
  refine (?_ : T 175 w V4 (i10_ :: i2_ :: i12_ :: i7_ :: G1) [(0, pB b3 0), (2, vi x6), (7, pB b4 0), (9, pB b5 0)] _) a w' hf hh
  clear hf hh
  refine T.seq (T.seq (T.region (T.pk (pB b5 0) (fun _ => by kernel_rfl) (T.look (vi e5.kind) (by kernel_rfl) (ld1 0 rfl rfl (fun _ => by kernel_rfl) (by rfl) rfl) ?_))))
  refine T.pk (.bool (e5.kind == 1)) (fun _ => by kernel_rfl) (T.nil ?_)
  refine T.cond (e5.kind == 1) (by kernel_rfl) (by kernel_rfl) (fun hc12 => ?_) (fun hc12 => ?_)
  ·
   rw [hc12, cond_true] at hS1
   obtain ⟨z9, hX5, hS1⟩ := ob hS1
   let i14_ : HObj := box b3 128 [vi p0.root, .slice A1 p0.nodes.length c1, .slice A6 ((x2.set x5.toNat true).length) ((p0.nodes.length : Int).toNat), vi z9, vi z7]
   refine T.cut (fun a w' => Fr 175 [(0, pB b3 0), (2, vi x6), (7, pB b4 0), (9, pB b5 0)] a ∧ Hp w V4 (i10_ :: i2_ :: i14_ :: i7_ :: G1) w') ?_ ?_
   ·
    refine T.seq (T.region (T.p3 (pB b3 0) (pB b3 0) (pB b3 3) (fun _ => by kernel_rfl) (T.look (vi x3) (by kernel_rfl) (ld1 2 rfl rfl (fun _ => by kernel_rfl) (by rfl) rfl) ?_)))
    refine T.pk (.bool (decide (x3 < 0))) (fun _ => by kernel_rfl) (T.nil ?_)
    refine T.cond (decide (x3 < 0)) (by kernel_rfl) (by kernel_rfl) (fun hc13 => ?_) (fun hc13 => ?_)
    ·
     rw [hc13, cond_true] at hX5
     refine T.region (T.p4 (pB b3 0) (vi x6) (pB b3 0) (pB b3 3) (fun _ => by kernel_rfl) ?_)
     let v53_ : List Value := [vi p0.root, .slice A1 p0.nodes.length c1, .slice A6 ((x2.set x5.toNat true).length) ((p0.nodes.length : Int).toNat), vi x6, vi z7]
     refine T.step (W1.st 2 v53_ (i10_ :: i2_ :: (box b3 128 v53_) :: i7_ :: G1) [vi x6] (by rfl) rfl rfl rfl rfl rfl rfl (fun _ => by kernel_rfl) ?_)
     refine T.nil ?_
     cases hX5
     exact fun a w' hf hh => ⟨(Fr.sel hf rfl), (hh.sub (kp3 (kp1 kpr)))⟩
    rw [hc13, cond_false] at hX5
    refine T.skip_code ?_
    cases hX5
    exact fun a w' hf hh => ⟨(Fr.sel hf rfl), (hh.sub (kp3 (kp1 kpr)))⟩
   rintro a w' ⟨hf, hh⟩
   refine (?_ : T 175 w V4 (i10_ :: i2_ :: i14_ :: i7_ :: G1) [(0, pB b3 0), (2, vi x6), (7, pB b4 0), (9, pB b5 0)] _) a w' hf hh
   clear hf hh
   obtain ⟨z10, hX6, hS1⟩ := ob hS1
   let i15_ : HObj := box b3 128 [vi p0.root, .slice A1 p0.nodes.length c1, .slice A6 ((x2.set x5.toNat true).length) ((p0.nodes.length : Int).toNat), vi z9, vi z10]
   refine T.cut (fun a w' => Fr 175 [(0, pB b3 0), (7, pB b4 0), (9, pB b5 0)] a ∧ Hp w V4 (i10_ :: i2_ :: i15_ :: i7_ :: G1) w') ?_ ?_
   ·
    refine T.seq (T.region (T.p3 (pB b3 0) (pB b3 0) (pB b3 3) (fun _ => by kernel_rfl) (T.look (vi z9) (by kernel_rfl) (ld1 2 rfl rfl (fun _ => by kernel_rfl) (by rfl) rfl) ?_)))
    refine T.p2 (vi x6) (.bool (z9 != x6)) (fun _ => by kernel_rfl) (T.nil ?_)
    refine T.cond (z9 != x6) (by kernel_rfl) (by kernel_rfl) (fun hc14 => ?_) (fun hc14 => ?_)
    ·
     rw [hc14, cond_true] at hX6
     refine T.region (T.pk (pB b3 0) (fun _ => by kernel_rfl) ?_)
     obtain ⟨z11, hX7, hX6⟩ := ob hX6
     let i16_ : HObj := box b3 128 [vi p0.root, .slice A1 p0.nodes.length c1, .slice A6 ((x2.set x5.toNat true).length) ((p0.nodes.length : Int).toNat), vi z9, vi z11]
     refine T.step (W1.within 75 [pB b3 0, vi 3] (fun v w' => v = .tuple #[] ∧ Hp w V4 (i10_ :: i2_ :: i16_ :: i7_ :: G1) w') Try.func75 rfl rfl (by kernel_rfl) (fun _ => by kernel_rfl) rfl ?_ ?_)
     ·
      refine T.seq (T.region (T.p3 (pB b3 0) (pB b3 0) (pB b3 4) (fun _ => by kernel_rfl) (T.look (vi z7) (by kernel_rfl) (ld1 2 rfl rfl (fun _ => by kernel_rfl) (by rfl) rfl) ?_)))
      refine T.pk (.bool (z7 == 0)) (fun _ => by kernel_rfl) (T.nil ?_)
      refine T.cond (z7 == 0) (by kernel_rfl) (by kernel_rfl) (fun hc15 => ?_) (fun hc15 => ?_)
      ·
       rw [hc15, cond_true] at hX7
       refine T.region (T.p4 (pB b3 0) (vi 3) (pB b3 0) (pB b3 4) (fun _ => by kernel_rfl) ?_)
       let v54_ : List Value := [vi p0.root, .slice A1 p0.nodes.length c1, .slice A6 ((x2.set x5.toNat true).length) ((p0.nodes.length : Int).toNat), vi z9, vi 3]
       refine T.step (W1.st 2 v54_ (i10_ :: i2_ :: (box b3 128 v54_) :: i7_ :: G1) [vi 3] (by rfl) rfl rfl rfl rfl rfl rfl (fun _ => by kernel_rfl) ?_)
       refine T.nil ?_
       cases hX7
       repeat first | refine T.unthen ?_ | refine T.unblock ?_
       exact T.end0 rfl fun w' hh => ⟨_, rfl, ⟨rfl, (hh.sub (kp3 (kp1 kpr)))⟩⟩
      rw [hc15, cond_false] at hX7
      refine T.skip_code ?_
      cases hX7
      repeat first | refine T.unthen ?_ | refine T.unblock ?_
      exact T.end0 rfl fun w' hh => ⟨_, rfl, ⟨rfl, (hh.sub (kp3 (kp1 kpr)))⟩⟩
     rintro v w' ⟨rfl, hh⟩
     refine ⟨V4, (i10_ :: i2_ :: i16_ :: i7_ :: G1), hh, ?_⟩
     clear hh
     refine T.nil ?_
     cases hX6
     exact fun a w' hf hh => ⟨(Fr.sel hf rfl), (hh.sub (kp3 (kp1 kpr)))⟩
    rw [hc14, cond_false] at hX6
    refine T.skip_code ?_
    cases hX6
    exact fun a w' hf hh => ⟨(Fr.sel hf rfl), (hh.sub (kp3 (kp1 kpr)))⟩
   rintro a w' ⟨hf, hh⟩
   refine (?_ : T 175 w V4 (i10_ :: i2_ :: i15_ :: i7_ :: G1) [(0, pB b3 0), (7, pB b4 0), (9, pB b5 0)] _) a w' hf hh
   clear hf hh
   refine T.seq (T.seq (T.region (T.pk (pB b5 1) (fun _ => by kernel_rfl) (T.look (.slice A11 e5.elems.length c10) (by kernel_rfl) (ld1 0 rfl rfl (fun _ => by kernel_rfl) (by rfl) rfl) ?_))))
   refine T.p2 (vi (e5.elems.length : Int)) (vi 0) (fun _ => by kernel_rfl) (T.nil ?_)
   obtain ⟨z12, hz3, hS1⟩ := ob hS1
   let i17_ : HObj := box b3 128 [vi p0.root, .slice A1 p0.nodes.length c1, .slice A6 ((x2.set x5.toNat true).length) ((p0.nodes.length : Int).toNat), vi z9, vi z12]
   refine T.mid (fun a w' => ∃ (V7 : View), View.le V4 V7 ∧ Fr 175 [(9, pB b5 0)] a ∧ Hp w V7 (i10_ :: i17_ :: i7_ :: G1) w') ?_ ?_
   ·
    refine T.block ?_
    refine T.iter (fun s1 a w' => ∃ (x17 : Int) (x18 : Int), s1 = (x17, x18) ∧ ∃ (V6 : View), View.le V4 V6 ∧ Fr 175 [(0, pB b3 0), (7, pB b4 0), (9, pB b5 0), (104, .slice A11 e5.elems.length c10), (105, vi (e5.elems.length : Int)), (106, vi x18)] a ∧ Hp w V6 (i10_ :: i2_ :: (box b3 128 [vi p0.root, .slice A1 p0.nodes.length c1, .slice A6 ((x2.set x5.toNat true).length) ((p0.nodes.length : Int).toNat), vi z9, vi x17]) :: i7_ :: G1) w') hz3 ?_ ?_
    ·
     exact fun a w' hf hh => ⟨z10, 0, rfl, V4, vr, (Fr.sel hf rfl), (hh.sub (kp3 (kp1 kpr)))⟩
    rintro s1 y2 hY2 hr5 a w' ⟨x17, x18, rfl, V6, hV6, hf, hh⟩
    let i18_ : HObj := box b3 128 [vi p0.root, .slice A1 p0.nodes.length c1, .slice A6 ((x2.set x5.toNat true).length) ((p0.nodes.length : Int).toNat), vi z9, vi x17]
    let t19_ : List HObj := i18_ :: i7_ :: G1
    let t20_ : List HObj := i2_ :: t19_
    let t21_ : List HObj := i10_ :: t20_
    refine (?_ : T 175 w V6 t21_ [(0, pB b3 0), (7, pB b4 0), (9, pB b5 0), (104, .slice A11 e5.elems.length c10), (105, vi (e5.elems.length : Int)), (106, vi x18)] _) a w' hf hh
    clear hf hh
    try dsimp only at hY2
    refine T.seq (T.region (T.pk (.bool (decide (x18 < (e5.elems.length : Int)))) (fun _ => by kernel_rfl) (T.nil (T.seq ?_))))
    refine T.cond (decide (x18 < (e5.elems.length : Int))) (by kernel_rfl) (by kernel_rfl) (fun hc16 => ?_) (fun hc16 => ?_)
    ·
     rw [hc16, cond_true] at hY2
     refine T.skip_code ?_
     obtain ⟨z13, hX8, hY2⟩ := ob hY2
     let i22_ : HObj := box b3 128 [vi p0.root, .slice A1 p0.nodes.length c1, .slice A6 ((x2.set x5.toNat true).length) ((p0.nodes.length : Int).toNat), vi z9, vi z13]
     refine T.cut (fun a w' => ∃ (V8 : View), View.le V6 V8 ∧ Fr 175 [(0, pB b3 0), (7, pB b4 0), (9, pB b5 0), (104, .slice A11 e5.elems.length c10), (105, vi (e5.elems.length : Int)), (106, vi x18)] a ∧ Hp w V8 (i10_ :: i2_ :: i22_ :: i7_ :: G1) w') ?_ ?_
     ·
      refine T.block (T.seq (T.region ?_))
      obtain ⟨e6, hb8, hX8⟩ := ob hX8
      obtain ⟨hi16, hi17, hi18⟩ := idx_some hb8
      refine T.look (.pointer (some ((sadr A11).add (x18.toNat * 6)))) (by kernel_rfl) (fun w' hh => exec_indexAddr (e := 28) (s := 6) rfl rfl rfl (by kernel_rfl) (by kernel_rfl) hi16 hi17 ((SlOk.mono hs10 hV6).some_ hi18 (by decide))) ?_
      let v55_ : List Value := [vi e6.key.pfs, vi e6.key.obj, vi e6.key.off, vi e6.made, vi e6.gone, .string e6.val]
      let a73_ : Value := .agg #[vi e6.key.pfs, vi e6.key.obj, vi e6.key.off, vi e6.made, vi e6.gone, .string e6.val]
      refine T.look a73_ (by kernel_rfl) (fun w' hh => exec_loadN (cs := v55_) rfl rfl (by kernel_rfl) (by kernel_rfl) (fun j u hj => (hh.cell_view (SlOk.cellF (E := eElem) (SlOk.mono hs10 hV6) hi18 j (fun _ _ _ h => h) hj)))) ?_
      refine T.step (W1.np 28 [vi 0, vi 0, vi 0, vi 0, vi 0, .string (ByteArray.mk #[])] (fun _ => by kernel_rfl) (fun b6 => ?_))
      let i23_ : HObj := box b6 28 v55_
      let t24_ : List HObj := i23_ :: t21_
      refine T.step (W1.st 0 v55_ t24_ v55_ (by rfl) rfl rfl rfl rfl rfl rfl (fun _ => by kernel_rfl) ?_)
      refine T.nil (T.seq ?_)
      refine T.held (i23_ :: i10_ :: i2_ :: i18_ :: i7_ :: []) (by kernel_rfl) ?_
      have w77_ := vt (vt hV2 hV4) hV6
      refine TA.keep (Hp.old vr w77_ (kp4 (kp1 kp0)) (oB4 (oR1 ol0))) fun o82_ => ?_
      refine TA.tk 0 a71_ rfl (by kernel_rfl) (fun _ _ _ h => h) o82_ (ldN 2 rfl rfl (fun _ => by kernel_rfl) (by rfl) rfl) ?_
      refine TA.tk 1 a73_ rfl (by kernel_rfl) (fun _ _ _ h => h) o82_ (ldN 0 rfl rfl (fun _ => by kernel_rfl) (by rfl) rfl) ?_
      refine TA.all [2] (by kernel_rfl) rfl ⟨?_, trivial⟩
      obtain ⟨r3, hb9, hX8⟩ := ob hX8
      refine TA.br rfl (W1.call (vAg eSpot) r3 22 #[a73_] (by kernel_rfl) (fun _ => by kernel_rfl) (fun w' hh => elem_Spot_l e6 r3 hb9 w' ) ?_)
      intro u V9 hV9 hu
      obtain rfl := sureSpot _ _ _ hu
      refine TA.on (Hp.old hV9 w77_ (kp4 (kp1 kp0)) (oB4 (oR1 ol0))) ?_
      refine TA.all [3] (by kernel_rfl) rfl ⟨?_, trivial⟩
      obtain ⟨z14, hX9, hX8⟩ := ob hX8
      let a74_ : Value := .agg #[vi r3.key.pfs, vi r3.key.obj, vi r3.key.off, vi r3.made]
      refine TA.br rfl (W1.within 92 [a71_, a74_] (fun v w' => ∃ (V10 : View), View.le V9 V10 ∧ v = .bool z14 ∧ Hp w V10 t24_ w') Try.func92 rfl rfl (by kernel_rfl) (fun _ => by kernel_rfl) rfl ?_ ?_)
      ·
       refine T.seq (T.region (T.step (W1.np 131 v49_ (fun _ => by kernel_rfl) (fun b7 => ?_))))
       let v56_ : List Value := [vi r3.key.pfs, vi r3.key.obj, vi r3.key.off, vi r3.made]
       refine T.step (W1.np 43 v56_ (fun _ => by kernel_rfl) (fun b8 => ?_))
       refine T.pk (.bool false) (fun _ => by kernel_rfl) (T.nil ?_)
       obtain ⟨z15, hX10, hX9⟩ := ob hX9
       refine T.cut (fun a w' => ∃ (V11 : View), View.le V9 V11 ∧ Fr 27 [(4, .bool z15)] a ∧ Hp w V11 t24_ w') ?_ ?_
       ·
        refine T.region (T.pk (pB b7 8) (fun _ => by kernel_rfl) (T.look (.bool x15) (by kernel_rfl) (ld1 1 rfl rfl (fun _ => by kernel_rfl) (by rfl) rfl) ?_))
        refine T.p2 (.bool (!x15)) (.bool (!x15)) (fun _ => by kernel_rfl) ?_
        cases hg5 : (!x15)
        ·
         skip
         rw [hg5, cond_false] at hX10
         refine T.pk (pB b7 0) (fun _ => by kernel_rfl) (T.look (.agg #[vi x7, vi x8, vi x9, vi x10]) (by kernel_rfl) (ldN 1 rfl rfl (fun _ => by kernel_rfl) (by rfl) rfl) ?_)
         refine T.look a74_ (by kernel_rfl) (ldN 0 rfl rfl (fun _ => by kernel_rfl) (by rfl) rfl) ?_
         obtain ⟨r4, hb10, hX10⟩ := ob hX10
         refine T.step (W1.call (vSc eInt) r4 62 #[.agg #[vi x7, vi x8, vi x9, vi x10], a74_] (by kernel_rfl) (fun _ => by kernel_rfl) (fun w' hh => key_CmpSpot_l (DSpot.mk (DKey.mk x7 x8 x9) x10) r3 r4 hb10 w' ) ?_)
         intro u V12 hV12 hu
         obtain rfl := sureInt _ _ _ hu
         refine T.p3 (.bool (decide (r4 ≤ 0))) (.bool (decide (r4 ≤ 0))) (.bool (decide (r4 ≤ 0))) (fun _ => by kernel_rfl) ?_
         cases hg6 : decide (r4 ≤ 0)
         ·
          skip
          rw [hg6, cond_false] at hX10
          refine T.pass (by kernel_rfl) (by kernel_rfl) (T.pass (by kernel_rfl) (by kernel_rfl) (T.pass (by kernel_rfl) (by kernel_rfl) (T.pass (by kernel_rfl) (by kernel_rfl) (T.pass (by kernel_rfl) (by kernel_rfl) (T.pass (by kernel_rfl) (by kernel_rfl) (T.pass (by kernel_rfl) (by kernel_rfl) (T.pass (by kernel_rfl) (by kernel_rfl) (T.pass (by kernel_rfl) (by kernel_rfl) (T.pass (by kernel_rfl) (by kernel_rfl) (T.p2 (.bool false) (.bool false) (fun _ => by kernel_rfl) (T.nil ?_)))))))))))
          cases hX10
          exact fun a w' hf hh => ⟨V12, hV12, (Fr.sel hf rfl), (hh.sub (dr2 (kp4 (kp1 kpr))))⟩
         skip
         rw [hg6, cond_true] at hX10
         refine T.pk (pB b7 9) (fun _ => by kernel_rfl) (T.look (.bool x16) (by kernel_rfl) (ld1 1 rfl rfl (fun _ => by kernel_rfl) (by rfl) rfl) ?_)
         refine T.p2 (.bool (!x16)) (.bool (!x16)) (fun _ => by kernel_rfl) ?_
         cases hg7 : (!x16)
         ·
          skip
          rw [hg7, cond_false] at hX10
          refine T.look a74_ (by kernel_rfl) (ldN 0 rfl rfl (fun _ => by kernel_rfl) (by rfl) rfl) ?_
          refine T.pk (pB b7 4) (fun _ => by kernel_rfl) (T.look (.agg #[vi x11, vi x12, vi x13, vi x14]) (by kernel_rfl) (ldN 1 rfl rfl (fun _ => by kernel_rfl) (by rfl) rfl) ?_)
          obtain ⟨r5, hb11, hX10⟩ := ob hX10
          refine T.step (W1.call (vSc eInt) r5 62 #[a74_, .agg #[vi x11, vi x12, vi x13, vi x14]] (by kernel_rfl) (fun _ => by kernel_rfl) (fun w' hh => key_CmpSpot_l r3 (DSpot.mk (DKey.mk x11 x12 x13) x14) r5 hb11 w' ) ?_)
          intro u V13 hV13 hu
          obtain rfl := sureInt _ _ _ hu
          refine T.p4 (.bool (decide (r5 < 0))) (.bool (decide (r5 < 0))) (.bool (decide (r5 < 0))) (.bool (decide (r5 < 0))) (fun _ => by kernel_rfl) (T.nil ?_)
          cases hX10
          exact fun a w' hf hh => ⟨V13, (vt hV12 hV13), (Fr.sel hf rfl), (hh.sub (dr2 (kp4 (kp1 kpr))))⟩
         skip
         rw [hg7, cond_true] at hX10
         refine T.pass (by kernel_rfl) (by kernel_rfl) (T.pass (by kernel_rfl) (by kernel_rfl) (T.pass (by kernel_rfl) (by kernel_rfl) (T.pass (by kernel_rfl) (by kernel_rfl) (T.pass (by kernel_rfl) (by kernel_rfl) (T.p3 (.bool true) (.bool true) (.bool true) (fun _ => by kernel_rfl) (T.nil ?_))))))
         cases hX10
         exact fun a w' hf hh => ⟨V12, hV12, (Fr.sel hf rfl), (hh.sub (dr2 (kp4 (kp1 kpr))))⟩
        skip
        rw [hg5, cond_true] at hX10
        refine T.pass (by kernel_rfl) (by kernel_rfl) (T.pass (by kernel_rfl) (by kernel_rfl) (T.pass (by kernel_rfl) (by kernel_rfl) (T.pass (by kernel_rfl) (by kernel_rfl) (T.pass (by kernel_rfl) (by kernel_rfl) (T.p3 (.bool true) (.bool true) (pB b7 9) (fun _ => by kernel_rfl) (T.look (.bool x16) (by kernel_rfl) (ld1 1 rfl rfl (fun _ => by kernel_rfl) (by rfl) rfl) ?_))))))
        refine T.p2 (.bool (!x16)) (.bool (!x16)) (fun _ => by kernel_rfl) ?_
        cases hg8 : (!x16)
        ·
         skip
         rw [hg8, cond_false] at hX10
         refine T.look a74_ (by kernel_rfl) (ldN 0 rfl rfl (fun _ => by kernel_rfl) (by rfl) rfl) ?_
         refine T.pk (pB b7 4) (fun _ => by kernel_rfl) (T.look (.agg #[vi x11, vi x12, vi x13, vi x14]) (by kernel_rfl) (ldN 1 rfl rfl (fun _ => by kernel_rfl) (by rfl) rfl) ?_)
         obtain ⟨r6, hb12, hX10⟩ := ob hX10
         refine T.step (W1.call (vSc eInt) r6 62 #[a74_, .agg #[vi x11, vi x12, vi x13, vi x14]] (by kernel_rfl) (fun _ => by kernel_rfl) (fun w' hh => key_CmpSpot_l r3 (DSpot.mk (DKey.mk x11 x12 x13) x14) r6 hb12 w' ) ?_)
         intro u V14 hV14 hu
         obtain rfl := sureInt _ _ _ hu
         refine T.p4 (.bool (decide (r6 < 0))) (.bool (decide (r6 < 0))) (.bool (decide (r6 < 0))) (.bool (decide (r6 < 0))) (fun _ => by kernel_rfl) (T.nil ?_)
         cases hX10
         exact fun a w' hf hh => ⟨V14, hV14, (Fr.sel hf rfl), (hh.sub (dr2 (kp4 (kp1 kpr))))⟩
        skip
        rw [hg8, cond_true] at hX10
        refine T.pass (by kernel_rfl) (by kernel_rfl) (T.pass (by kernel_rfl) (by kernel_rfl) (T.pass (by kernel_rfl) (by kernel_rfl) (T.pass (by kernel_rfl) (by kernel_rfl) (T.pass (by kernel_rfl) (by kernel_rfl) (T.p3 (.bool true) (.bool true) (.bool true) (fun _ => by kernel_rfl) (T.nil ?_))))))
        cases hX10
        exact fun a w' hf hh => ⟨V9, vr, (Fr.sel hf rfl), (hh.sub (dr2 (kp4 (kp1 kpr))))⟩
       rintro a w' ⟨V11, hV11, hf, hh⟩
       refine (?_ : T 27 w V11 t24_ [(4, .bool z15)] _) a w' hf hh
       clear hf hh
       cases hX9
       refine T.ret rfl ?_
       exact T.ret1 rfl (ResIs.tmp rfl) fun w' hh => ⟨_, rfl, ⟨V11, hV11, rfl, (hh.sub (kp4 (kp1 kpr)))⟩⟩
      rintro v w' ⟨V10, hV10, rfl, hh⟩
      refine ⟨V10, t24_, hh, ?_⟩
      clear hh
      refine TA.onk (Hp.old (vt hV9 hV10) w77_ (kp4 (kp1 kp0)) (oB4 (oR1 ol0))) fun o83_ => ?_
      refine TA.tp 4 (.bool (!z14)) rfl (fun _ => by kernel_rfl) (fun _ _ _ h => h) o83_ ?_
      refine TA.done (by kernel_rfl) ?_
      refine T.cond (!z14) (by kernel_rfl) (by kernel_rfl) (fun hc17 => ?_) (fun hc17 => ?_)
      ·
       rw [hc17, cond_true] at hX8
       refine T.region (T.pk (pB b3 0) (fun _ => by kernel_rfl) ?_)
       obtain ⟨z16, hX11, hX8⟩ := ob hX8
       let i25_ : HObj := box b3 128 [vi p0.root, .slice A1 p0.nodes.length c1, .slice A6 ((x2.set x5.toNat true).length) ((p0.nodes.length : Int).toNat), vi z9, vi z16]
       refine T.step (W1.within 75 [pB b3 0, vi 3] (fun v w' => v = .tuple #[] ∧ Hp w V10 (i10_ :: i2_ :: i25_ :: i7_ :: G1) w') Try.func75 rfl rfl (by kernel_rfl) (fun _ => by kernel_rfl) rfl ?_ ?_)
       ·
        refine T.seq (T.region (T.p3 (pB b3 0) (pB b3 0) (pB b3 4) (fun _ => by kernel_rfl) (T.look (vi x17) (by kernel_rfl) (ld1 3 rfl rfl (fun _ => by kernel_rfl) (by rfl) rfl) ?_)))
        refine T.pk (.bool (x17 == 0)) (fun _ => by kernel_rfl) (T.nil ?_)
        refine T.cond (x17 == 0) (by kernel_rfl) (by kernel_rfl) (fun hc18 => ?_) (fun hc18 => ?_)
        ·
         rw [hc18, cond_true] at hX11
         refine T.region (T.p4 (pB b3 0) (vi 3) (pB b3 0) (pB b3 4) (fun _ => by kernel_rfl) ?_)
         let v57_ : List Value := [vi p0.root, .slice A1 p0.nodes.length c1, .slice A6 ((x2.set x5.toNat true).length) ((p0.nodes.length : Int).toNat), vi z9, vi 3]
         refine T.step (W1.st 3 v57_ (i23_ :: i10_ :: i2_ :: (box b3 128 v57_) :: i7_ :: G1) [vi 3] (by rfl) rfl rfl rfl rfl rfl rfl (fun _ => by kernel_rfl) ?_)
         refine T.nil ?_
         cases hX11
         repeat first | refine T.unthen ?_ | refine T.unblock ?_
         exact T.end0 rfl fun w' hh => ⟨_, rfl, ⟨rfl, (hh.sub (dr1 (kp3 (kp1 kpr))))⟩⟩
        rw [hc18, cond_false] at hX11
        refine T.skip_code ?_
        cases hX11
        repeat first | refine T.unthen ?_ | refine T.unblock ?_
        exact T.end0 rfl fun w' hh => ⟨_, rfl, ⟨rfl, (hh.sub (dr1 (kp3 (kp1 kpr))))⟩⟩
       rintro v w' ⟨rfl, hh⟩
       refine ⟨V10, (i10_ :: i2_ :: i25_ :: i7_ :: G1), hh, ?_⟩
       clear hh
       refine T.nil ?_
       cases hX8
       exact fun a w' hf hh => ⟨V10, (vt hV9 hV10), (Fr.sel hf rfl), (hh.sub (kp3 (kp1 kpr)))⟩
      rw [hc17, cond_false] at hX8
      refine T.skip_code ?_
      cases hX8
      exact fun a w' hf hh => ⟨V10, (vt hV9 hV10), (Fr.sel hf rfl), (hh.sub (dr1 (kp3 (kp1 kpr))))⟩
     rintro a w' ⟨V8, hV8, hf, hh⟩
     refine (?_ : T 175 w V8 (i10_ :: i2_ :: i22_ :: i7_ :: G1) [(0, pB b3 0), (7, pB b4 0), (9, pB b5 0), (104, .slice A11 e5.elems.length c10), (105, vi (e5.elems.length : Int)), (106, vi x18)] _) a w' hf hh
     clear hf hh
     refine T.region (T.p2 (vi (IntKind.i64.wrap (x18 + 1))) (vi (IntKind.i64.wrap (x18 + 1))) (fun _ => by kernel_rfl) (T.nil ?_))
     cases hY2
     exact fun a w' hf hh => ⟨(z13, IntKind.i64.wrap (x18 + 1)), rfl, z13, (IntKind.i64.wrap (x18 + 1)), rfl, V8, (vt hV6 hV8), (Fr.sel hf rfl), (hh.sub (kp3 (kp1 kpr)))⟩
    rw [hc16, cond_false] at hY2
    refine T.exit ?_
    cases hY2
    cases (hr5 _ rfl)
    exact fun a w' hf hh => ⟨V6, hV6, (Fr.sel hf rfl), (hh.sub (kp1 (dr1 (kp1 (kp1 kpr)))))⟩
   rintro a w' ⟨V7, hV7, hf, hh⟩
   refine (?_ : T 175 w V7 (i10_ :: i17_ :: i7_ :: G1) [(9, pB b5 0)] _) a w' hf hh
   clear hf hh
   refine T.seq (T.region (T.look a72_ (by kernel_rfl) (ldN 0 rfl rfl (fun _ => by kernel_rfl) (by rfl) rfl) ?_))
   obtain ⟨r7, hb13, hS1⟩ := ob hS1
   refine T.step (W1.call (vSc eInt) r7 60 #[a72_] (by kernel_rfl) (fun _ => by kernel_rfl) (fun w' hh => node_Greatest_l F e5 r7 hb13 w' A11 c10 (SlOk.mono (SlOk.mono hs10 hV7) hh.view) A12 c11 (SlOk.mono (SlOk.mono hs11 hV7) hh.view) A13 c12 (SlOk.mono (SlOk.mono hs12 hV7) hh.view) A14 c13 (SlOk.mono (SlOk.mono hs13 hV7) hh.view)) ?_)
   intro u V15 hV15 hu
   obtain rfl := sureInt _ _ _ hu
   refine T.pk (vi r7) (fun _ => by kernel_rfl) (T.nil ?_)
   have hres := Option.some.inj hS1
   subst hres
   refine T.ret rfl ?_
   repeat first | refine T.unthen ?_ | refine T.unblock ?_
   exact T.ret1 rfl (ResIs.tmp rfl) fun w' hh => ⟨_, rfl, ⟨(x2.set x5.toNat true), z9, z12, r7, rfl, V15, (vt hV7 hV15), rfl, (hh.sub (dr1 (kp1 (kp1 kpr))))⟩⟩
  rw [hc12, cond_false] at hS1
  refine T.skip_code ?_
  refine T.seq (T.seq (T.region (T.pk (pB b5 2) (fun _ => by kernel_rfl) (T.look (.slice A12 e5.kids.length c11) (by kernel_rfl) (ld1 0 rfl rfl (fun _ => by kernel_rfl) (by rfl) rfl) ?_))))
  refine T.p2 (vi (e5.kids.length : Int)) (vi 0) (fun _ => by kernel_rfl) (T.nil ?_)
  obtain ⟨q3, hz4, hS1⟩ := ob hS1
  refine T.mid (fun a w' => ∃ (z17 : List Bool) (z18 : Int) (z19 : Int), q3 = (z17, z18, z19) ∧ ∃ (V17 : View), View.le V4 V17 ∧ Fr 175 [(9, pB b5 0)] a ∧ Hp w V17 (i10_ :: (box b3 128 [vi p0.root, .slice A1 p0.nodes.length c1, .slice A6 z17.length ((p0.nodes.length : Int).toNat), vi z18, vi z19]) :: (row 4 eBool A6 ((p0.nodes.length : Int).toNat) z17) :: G1) w') ?_ ?_
  ·
   refine T.block ?_
   refine T.iter (fun s2 a w' => ∃ (x19 : List Bool) (x20 : Int) (x21 : Int) (x22 : Int), s2 = (x19, x20, x21, x22) ∧ ∃ (V16 : View), View.le V4 V16 ∧ Fr 175 [(0, pB b3 0), (2, vi x6), (7, pB b4 0), (9, pB b5 0), (121, .slice A12 e5.kids.length c11), (122, vi (e5.kids.length : Int)), (123, vi x22)] a ∧ Hp w V16 (i10_ :: i2_ :: (box b3 128 [vi p0.root, .slice A1 p0.nodes.length c1, .slice A6 x19.length ((p0.nodes.length : Int).toNat), vi x20, vi x21]) :: (row 4 eBool A6 ((p0.nodes.length : Int).toNat) x19) :: G1) w') hz4 ?_ ?_
   ·
    exact fun a w' hf hh => ⟨(x2.set x5.toNat true), x3, z7, 0, rfl, V4, vr, (Fr.sel hf rfl), (hh.sub (kp3 (kp1 kpr)))⟩
   rintro s2 y3 hY3 hr6 a w' ⟨x19, x20, x21, x22, rfl, V16, hV16, hf, hh⟩
   let i26_ : HObj := box b3 128 [vi p0.root, .slice A1 p0.nodes.length c1, .slice A6 x19.length ((p0.nodes.length : Int).toNat), vi x20, vi x21]
   let i27_ : HObj := row 4 eBool A6 ((p0.nodes.length : Int).toNat) x19
   let t28_ : List HObj := i26_ :: i27_ :: G1
   let t29_ : List HObj := i2_ :: t28_
   let t30_ : List HObj := i10_ :: t29_
   refine (?_ : T 175 w V16 t30_ [(0, pB b3 0), (2, vi x6), (7, pB b4 0), (9, pB b5 0), (121, .slice A12 e5.kids.length c11), (122, vi (e5.kids.length : Int)), (123, vi x22)] _) a w' hf hh
   clear hf hh
   try dsimp only at hY3
   refine T.seq (T.region (T.pk (.bool (decide (x22 < (e5.kids.length : Int)))) (fun _ => by kernel_rfl) (T.nil (T.seq ?_))))
   refine T.cond (decide (x22 < (e5.kids.length : Int))) (by kernel_rfl) (by kernel_rfl) (fun hc19 => ?_) (fun hc19 => ?_)
   ·
    rw [hc19, cond_true] at hY3
    refine T.skip_code ?_
    obtain ⟨q4, hX12, hY3⟩ := ob hY3
    refine T.cut (fun a w' => ∃ (z20 : List Bool) (z21 : Int) (z22 : Int), q4 = (z20, z21, z22) ∧ ∃ (V18 : View), View.le V16 V18 ∧ Fr 175 [(0, pB b3 0), (2, vi x6), (7, pB b4 0), (9, pB b5 0), (121, .slice A12 e5.kids.length c11), (122, vi (e5.kids.length : Int)), (123, vi x22)] a ∧ Hp w V18 (i10_ :: i2_ :: (box b3 128 [vi p0.root, .slice A1 p0.nodes.length c1, .slice A6 z20.length ((p0.nodes.length : Int).toNat), vi z21, vi z22]) :: (row 4 eBool A6 ((p0.nodes.length : Int).toNat) z20) :: G1) w') ?_ ?_
    ·
     refine T.block (T.seq (T.region (T.pk (vi x22) (fun _ => by kernel_rfl) ?_)))
     obtain ⟨e7, hb14, hX12⟩ := ob hX12
     obtain ⟨hi19, hi20, hi21⟩ := idx_some hb14
     refine T.look (.pointer (some ((sadr A12).add (x22.toNat * 1)))) (by kernel_rfl) (fun w' hh => exec_indexAddr (e := 3) (s := 1) rfl rfl rfl (by kernel_rfl) (by kernel_rfl) hi19 hi20 ((SlOk.mono hs11 hV16).some_ hi21 (by decide))) ?_
     refine T.look (vi e7) (by kernel_rfl) (fun w' hh => exec_load1 rfl rfl (by kernel_rfl) (hh.cell_view (SlOk.cellF0 (E := eInt) (SlOk.mono hs11 hV16) hi21 (fun _ _ _ h => h) rfl))) ?_
     refine T.p2 (vi x22) (vi e7) (fun _ => by kernel_rfl) (T.nil (T.seq (T.region (T.look a71_ (by kernel_rfl) (ldN 1 rfl rfl (fun _ => by kernel_rfl) (by rfl) rfl) ?_))))
     refine T.step (W1.np 131 [vi 0, vi 0, vi 0, vi 0, vi 0, vi 0, vi 0, vi 0, .bool false, .bool false] (fun _ => by kernel_rfl) (fun b9 => ?_))
     refine T.step (W1.st 0 v49_ ((box b9 131 v49_) :: t30_) v49_ (by rfl) rfl rfl rfl rfl rfl rfl (fun _ => by kernel_rfl) ?_)
     refine T.nil ?_
     obtain ⟨q5, hX13, hX12⟩ := ob hX12
     refine T.cut (fun a w' => ∃ (z23 : Int) (z24 : Int) (z25 : Int) (z26 : Int) (z27 : Bool) (z28 : Int), q5 = (z23, z24, z25, z26, z27, z28) ∧ ∃ (V19 : View), View.le V16 V19 ∧ Fr 175 [(0, pB b3 0), (2, vi x6), (7, pB b4 0), (9, pB b5 0), (12, vi x22), (13, vi e7), (14, pB b9 0), (121, .slice A12 e5.kids.length c11), (122, vi (e5.kids.length : Int)), (123, vi x22)] a ∧ Hp w V19 ((box b9 131 [vi z23, vi z24, vi z25, vi z26, vi x11, vi x12, vi x13, vi x14, .bool z27, .bool x16]) :: i10_ :: i2_ :: (box b3 128 [vi p0.root, .slice A1 p0.nodes.length c1, .slice A6 x19.length ((p0.nodes.length : Int).toNat), vi x20, vi z28]) :: i27_ :: G1) w') ?_ ?_
     ·
      refine T.seq (T.region (T.p2 (vi x22) (.bool (decide ((0 : Int) < x22))) (fun _ => by kernel_rfl) (T.nil ?_)))
      refine T.cond (decide ((0 : Int) < x22)) (by kernel_rfl) (by kernel_rfl) (fun hc20 => ?_) (fun hc20 => ?_)
      ·
       rw [hc20, cond_true] at hX13
       refine T.seq (T.region (T.pk (pB b5 3) (fun _ => by kernel_rfl) (T.look (.slice A13 e5.seps.length c12) (by kernel_rfl) (ld1 1 rfl rfl (fun _ => by kernel_rfl) (by rfl) rfl) ?_)))
       refine T.p2 (vi x22) (vi (IntKind.i64.wrap (x22 - 1))) (fun _ => by kernel_rfl) ?_
       obtain ⟨e8, hb15, hX13⟩ := ob hX13
       obtain ⟨hi22, hi23, hi24⟩ := idx_some hb15
       refine T.look (.pointer (some ((sadr A13).add (((IntKind.i64.wrap (x22 - 1)).toNat) * 4)))) (by kernel_rfl) (fun w' hh => exec_indexAddr (e := 43) (s := 4) rfl rfl rfl (by kernel_rfl) (by kernel_rfl) hi22 hi23 ((SlOk.mono hs12 hV16).some_ hi24 (by decide))) ?_
       let v58_ : List Value := [vi e8.key.pfs, vi e8.key.obj, vi e8.key.off, vi e8.made]
       let a75_ : Value := .agg #[vi e8.key.pfs, vi e8.key.obj, vi e8.key.off, vi e8.made]
       refine T.look a75_ (by kernel_rfl) (fun w' hh => exec_loadN (cs := v58_) rfl rfl (by kernel_rfl) (by kernel_rfl) (fun j u hj => (hh.cell_view (SlOk.cellF (E := eSpot) (SlOk.mono hs12 hV16) hi24 j (fun _ _ _ h => h) hj)))) ?_
       refine T.pk (pB b9 0) (fun _ => by kernel_rfl) ?_
       let v59_ : List Value := [vi e8.key.pfs, vi e8.key.obj, vi e8.key.off, vi e8.made, vi x11, vi x12, vi x13, vi x14, .bool x15, .bool x16]
       refine T.step (W1.st 0 v59_ ((box b9 131 v59_) :: t30_) v58_ (by rfl) rfl rfl rfl rfl rfl rfl (fun _ => by kernel_rfl) ?_)
       refine T.pk (pB b9 8) (fun _ => by kernel_rfl) ?_
       let v60_ : List Value := [vi e8.key.pfs, vi e8.key.obj, vi e8.key.off, vi e8.made, vi x11, vi x12, vi x13, vi x14, .bool true, .bool x16]
       let i31_ : HObj := box b9 131 v60_
       let t32_ : List HObj := i31_ :: t30_
       refine T.step (W1.st 0 v60_ t32_ [.bool true] (by rfl) rfl rfl rfl rfl rfl rfl (fun _ => by kernel_rfl) ?_)
       refine T.nil (T.seq (T.region (T.look a71_ (by kernel_rfl) (ldN 2 rfl rfl (fun _ => by kernel_rfl) (by rfl) rfl) ?_)))
       refine T.pk (pB b9 0) (fun _ => by kernel_rfl) (T.look a75_ (by kernel_rfl) (ldN 0 rfl rfl (fun _ => by kernel_rfl) (by rfl) rfl) ?_)
       obtain ⟨z29, hX14, hX13⟩ := ob hX13
       refine T.step (W1.within 92 [a71_, a75_] (fun v w' => ∃ (V20 : View), View.le V16 V20 ∧ v = .bool z29 ∧ Hp w V20 t32_ w') Try.func92 rfl rfl (by kernel_rfl) (fun _ => by kernel_rfl) rfl ?_ ?_)
       ·
        refine T.seq (T.region (T.step (W1.np 131 v49_ (fun _ => by kernel_rfl) (fun b10 => ?_))))
        refine T.step (W1.np 43 v58_ (fun _ => by kernel_rfl) (fun b11 => ?_))
        refine T.pk (.bool false) (fun _ => by kernel_rfl) (T.nil ?_)
        obtain ⟨z30, hX15, hX14⟩ := ob hX14
        refine T.cut (fun a w' => ∃ (V21 : View), View.le V16 V21 ∧ Fr 27 [(4, .bool z30)] a ∧ Hp w V21 t32_ w') ?_ ?_
        ·
         refine T.region (T.pk (pB b10 8) (fun _ => by kernel_rfl) (T.look (.bool x15) (by kernel_rfl) (ld1 1 rfl rfl (fun _ => by kernel_rfl) (by rfl) rfl) ?_))
         refine T.p2 (.bool (!x15)) (.bool (!x15)) (fun _ => by kernel_rfl) ?_
         cases hg9 : (!x15)
         ·
          skip
          rw [hg9, cond_false] at hX15
          refine T.pk (pB b10 0) (fun _ => by kernel_rfl) (T.look (.agg #[vi x7, vi x8, vi x9, vi x10]) (by kernel_rfl) (ldN 1 rfl rfl (fun _ => by kernel_rfl) (by rfl) rfl) ?_)
          refine T.look a75_ (by kernel_rfl) (ldN 0 rfl rfl (fun _ => by kernel_rfl) (by rfl) rfl) ?_
          obtain ⟨r8, hb16, hX15⟩ := ob hX15
          refine T.step (W1.call (vSc eInt) r8 62 #[.agg #[vi x7, vi x8, vi x9, vi x10], a75_] (by kernel_rfl) (fun _ => by kernel_rfl) (fun w' hh => key_CmpSpot_l (DSpot.mk (DKey.mk x7 x8 x9) x10) e8 r8 hb16 w' ) ?_)
          intro u V22 hV22 hu
          obtain rfl := sureInt _ _ _ hu
          refine T.p3 (.bool (decide (r8 ≤ 0))) (.bool (decide (r8 ≤ 0))) (.bool (decide (r8 ≤ 0))) (fun _ => by kernel_rfl) ?_
          cases hg10 : decide (r8 ≤ 0)
          ·
           skip
           rw [hg10, cond_false] at hX15
           refine T.pass (by kernel_rfl) (by kernel_rfl) (T.pass (by kernel_rfl) (by kernel_rfl) (T.pass (by kernel_rfl) (by kernel_rfl) (T.pass (by kernel_rfl) (by kernel_rfl) (T.pass (by kernel_rfl) (by kernel_rfl) (T.pass (by kernel_rfl) (by kernel_rfl) (T.pass (by kernel_rfl) (by kernel_rfl) (T.pass (by kernel_rfl) (by kernel_rfl) (T.pass (by kernel_rfl) (by kernel_rfl) (T.pass (by kernel_rfl) (by kernel_rfl) (T.p2 (.bool false) (.bool false) (fun _ => by kernel_rfl) (T.nil ?_)))))))))))
           cases hX15
           exact fun a w' hf hh => ⟨V22, hV22, (Fr.sel hf rfl), (hh.sub (dr2 (kp4 (kp1 kpr))))⟩
          skip
          rw [hg10, cond_true] at hX15
          refine T.pk (pB b10 9) (fun _ => by kernel_rfl) (T.look (.bool x16) (by kernel_rfl) (ld1 1 rfl rfl (fun _ => by kernel_rfl) (by rfl) rfl) ?_)
          refine T.p2 (.bool (!x16)) (.bool (!x16)) (fun _ => by kernel_rfl) ?_
          cases hg11 : (!x16)
          ·
           skip
           rw [hg11, cond_false] at hX15
           refine T.look a75_ (by kernel_rfl) (ldN 0 rfl rfl (fun _ => by kernel_rfl) (by rfl) rfl) ?_
           refine T.pk (pB b10 4) (fun _ => by kernel_rfl) (T.look (.agg #[vi x11, vi x12, vi x13, vi x14]) (by kernel_rfl) (ldN 1 rfl rfl (fun _ => by kernel_rfl) (by rfl) rfl) ?_)
           obtain ⟨r9, hb17, hX15⟩ := ob hX15
           refine T.step (W1.call (vSc eInt) r9 62 #[a75_, .agg #[vi x11, vi x12, vi x13, vi x14]] (by kernel_rfl) (fun _ => by kernel_rfl) (fun w' hh => key_CmpSpot_l e8 (DSpot.mk (DKey.mk x11 x12 x13) x14) r9 hb17 w' ) ?_)
           intro u V23 hV23 hu
           obtain rfl := sureInt _ _ _ hu
           refine T.p4 (.bool (decide (r9 < 0))) (.bool (decide (r9 < 0))) (.bool (decide (r9 < 0))) (.bool (decide (r9 < 0))) (fun _ => by kernel_rfl) (T.nil ?_)
           cases hX15
           exact fun a w' hf hh => ⟨V23, (vt hV22 hV23), (Fr.sel hf rfl), (hh.sub (dr2 (kp4 (kp1 kpr))))⟩
          skip
          rw [hg11, cond_true] at hX15
          refine T.pass (by kernel_rfl) (by kernel_rfl) (T.pass (by kernel_rfl) (by kernel_rfl) (T.pass (by kernel_rfl) (by kernel_rfl) (T.pass (by kernel_rfl) (by kernel_rfl) (T.pass (by kernel_rfl) (by kernel_rfl) (T.p3 (.bool true) (.bool true) (.bool true) (fun _ => by kernel_rfl) (T.nil ?_))))))
          cases hX15
          exact fun a w' hf hh => ⟨V22, hV22, (Fr.sel hf rfl), (hh.sub (dr2 (kp4 (kp1 kpr))))⟩
         skip
         rw [hg9, cond_true] at hX15
         refine T.pass (by kernel_rfl) (by kernel_rfl) (T.pass (by kernel_rfl) (by kernel_rfl) (T.pass (by kernel_rfl) (by kernel_rfl) (T.pass (by kernel_rfl) (by kernel_rfl) (T.pass (by kernel_rfl) (by kernel_rfl) (T.p3 (.bool true) (.bool true) (pB b10 9) (fun _ => by kernel_rfl) (T.look (.bool x16) (by kernel_rfl) (ld1 1 rfl rfl (fun _ => by kernel_rfl) (by rfl) rfl) ?_))))))
         refine T.p2 (.bool (!x16)) (.bool (!x16)) (fun _ => by kernel_rfl) ?_
         cases hg12 : (!x16)
         ·
          skip
          rw [hg12, cond_false] at hX15
          refine T.look a75_ (by kernel_rfl) (ldN 0 rfl rfl (fun _ => by kernel_rfl) (by rfl) rfl) ?_
          refine T.pk (pB b10 4) (fun _ => by kernel_rfl) (T.look (.agg #[vi x11, vi x12, vi x13, vi x14]) (by kernel_rfl) (ldN 1 rfl rfl (fun _ => by kernel_rfl) (by rfl) rfl) ?_)
          obtain ⟨r10, hb18, hX15⟩ := ob hX15
          refine T.step (W1.call (vSc eInt) r10 62 #[a75_, .agg #[vi x11, vi x12, vi x13, vi x14]] (by kernel_rfl) (fun _ => by kernel_rfl) (fun w' hh => key_CmpSpot_l e8 (DSpot.mk (DKey.mk x11 x12 x13) x14) r10 hb18 w' ) ?_)
          intro u V24 hV24 hu
          obtain rfl := sureInt _ _ _ hu
          refine T.p4 (.bool (decide (r10 < 0))) (.bool (decide (r10 < 0))) (.bool (decide (r10 < 0))) (.bool (decide (r10 < 0))) (fun _ => by kernel_rfl) (T.nil ?_)
          cases hX15
          exact fun a w' hf hh => ⟨V24, hV24, (Fr.sel hf rfl), (hh.sub (dr2 (kp4 (kp1 kpr))))⟩
         skip
         rw [hg12, cond_true] at hX15
         refine T.pass (by kernel_rfl) (by kernel_rfl) (T.pass (by kernel_rfl) (by kernel_rfl) (T.pass (by kernel_rfl) (by kernel_rfl) (T.pass (by kernel_rfl) (by kernel_rfl) (T.pass (by kernel_rfl) (by kernel_rfl) (T.p3 (.bool true) (.bool true) (.bool true) (fun _ => by kernel_rfl) (T.nil ?_))))))
         cases hX15
         exact fun a w' hf hh => ⟨V16, vr, (Fr.sel hf rfl), (hh.sub (dr2 (kp4 (kp1 kpr))))⟩
        rintro a w' ⟨V21, hV21, hf, hh⟩
        refine (?_ : T 27 w V21 t32_ [(4, .bool z30)] _) a w' hf hh
        clear hf hh
        cases hX14
        refine T.ret rfl ?_
        exact T.ret1 rfl (ResIs.tmp rfl) fun w' hh => ⟨_, rfl, ⟨V21, hV21, rfl, (hh.sub (kp4 (kp1 kpr)))⟩⟩
       rintro v w' ⟨V20, hV20, rfl, hh⟩
       refine ⟨V20, t32_, hh, ?_⟩
       clear hh
       refine T.pk (.bool (!z29)) (fun _ => by kernel_rfl) (T.nil ?_)
       refine T.cond (!z29) (by kernel_rfl) (by kernel_rfl) (fun hc21 => ?_) (fun hc21 => ?_)
       ·
        rw [hc21, cond_true] at hX13
        refine T.region (T.pk (pB b3 0) (fun _ => by kernel_rfl) ?_)
        obtain ⟨z31, hX16, hX13⟩ := ob hX13
        let i33_ : HObj := box b3 128 [vi p0.root, .slice A1 p0.nodes.length c1, .slice A6 x19.length ((p0.nodes.length : Int).toNat), vi x20, vi z31]
        refine T.step (W1.within 75 [pB b3 0, vi 3] (fun v w' => v = .tuple #[] ∧ Hp w V20 (i31_ :: i10_ :: i2_ :: i33_ :: i27_ :: G1) w') Try.func75 rfl rfl (by kernel_rfl) (fun _ => by kernel_rfl) rfl ?_ ?_)
        ·
         refine T.seq (T.region (T.p3 (pB b3 0) (pB b3 0) (pB b3 4) (fun _ => by kernel_rfl) (T.look (vi x21) (by kernel_rfl) (ld1 3 rfl rfl (fun _ => by kernel_rfl) (by rfl) rfl) ?_)))
         refine T.pk (.bool (x21 == 0)) (fun _ => by kernel_rfl) (T.nil ?_)
         refine T.cond (x21 == 0) (by kernel_rfl) (by kernel_rfl) (fun hc22 => ?_) (fun hc22 => ?_)
         ·
          rw [hc22, cond_true] at hX16
          refine T.region (T.p4 (pB b3 0) (vi 3) (pB b3 0) (pB b3 4) (fun _ => by kernel_rfl) ?_)
          let v61_ : List Value := [vi p0.root, .slice A1 p0.nodes.length c1, .slice A6 x19.length ((p0.nodes.length : Int).toNat), vi x20, vi 3]
          refine T.step (W1.st 3 v61_ (i31_ :: i10_ :: i2_ :: (box b3 128 v61_) :: i27_ :: G1) [vi 3] (by rfl) rfl rfl rfl rfl rfl rfl (fun _ => by kernel_rfl) ?_)
          refine T.nil ?_
          cases hX16
          repeat first | refine T.unthen ?_ | refine T.unblock ?_
          exact T.end0 rfl fun w' hh => ⟨_, rfl, ⟨rfl, (hh.sub (kp4 (kp1 kpr)))⟩⟩
         rw [hc22, cond_false] at hX16
         refine T.skip_code ?_
         cases hX16
         repeat first | refine T.unthen ?_ | refine T.unblock ?_
         exact T.end0 rfl fun w' hh => ⟨_, rfl, ⟨rfl, (hh.sub (kp4 (kp1 kpr)))⟩⟩
        rintro v w' ⟨rfl, hh⟩
        refine ⟨V20, (i31_ :: i10_ :: i2_ :: i33_ :: i27_ :: G1), hh, ?_⟩
        clear hh
        refine T.nil ?_
        cases hX13
        exact fun a w' hf hh => ⟨e8.key.pfs, e8.key.obj, e8.key.off, e8.made, true, z31, rfl, V20, hV20, (Fr.sel hf rfl), (hh.sub (kp4 (kp1 kpr)))⟩
       rw [hc21, cond_false] at hX13
       refine T.skip_code ?_
       cases hX13
       exact fun a w' hf hh => ⟨e8.key.pfs, e8.key.obj, e8.key.off, e8.made, true, x21, rfl, V20, hV20, (Fr.sel hf rfl), (hh.sub (kp4 (kp1 kpr)))⟩
      rw [hc20, cond_false] at hX13
      refine T.skip_code ?_
      cases hX13
      exact fun a w' hf hh => ⟨x7, x8, x9, x10, x15, x21, rfl, V16, vr, (Fr.sel hf rfl), (hh.sub (kp4 (kp1 kpr)))⟩
     rintro a w' ⟨z23, z24, z25, z26, z27, z28, rfl, V19, hV19, hf, hh⟩
     try dsimp only at hX12
     let i34_ : HObj := box b3 128 [vi p0.root, .slice A1 p0.nodes.length c1, .slice A6 x19.length ((p0.nodes.length : Int).toNat), vi x20, vi z28]
     let t35_ : List HObj := i34_ :: i27_ :: G1
     let t36_ : List HObj := i2_ :: t35_
     let t37_ : List HObj := i10_ :: t36_
     refine (?_ : T 175 w V19 ((box b9 131 [vi z23, vi z24, vi z25, vi z26, vi x11, vi x12, vi x13, vi x14, .bool z27, .bool x16]) :: t37_) [(0, pB b3 0), (2, vi x6), (7, pB b4 0), (9, pB b5 0), (12, vi x22), (13, vi e7), (14, pB b9 0), (121, .slice A12 e5.kids.length c11), (122, vi (e5.kids.length : Int)), (123, vi x22)] _) a w' hf hh
     clear hf hh
     obtain ⟨q6, hX17, hX12⟩ := ob hX12
     refine T.cut (fun a w' => ∃ (z32 : Int) (z33 : Int) (z34 : Int) (z35 : Int) (z36 : Bool), q6 = (z32, z33, z34, z35, z36) ∧ Fr 175 [(0, pB b3 0), (2, vi x6), (7, pB b4 0), (9, pB b5 0), (12, vi x22), (13, vi e7), (14, pB b9 0), (121, .slice A12 e5.kids.length c11), (122, vi (e5.kids.length : Int)), (123, vi x22)] a ∧ Hp w V19 ((box b9 131 [vi z23, vi z24, vi z25, vi z26, vi z32, vi z33, vi z34, vi z35, .bool z27, .bool z36]) :: t37_) w') ?_ ?_
     ·
      refine T.seq (T.region (T.p2 (vi x22) (pB b5 3) (fun _ => by kernel_rfl) (T.look (.slice A13 e5.seps.length c12) (by kernel_rfl) (ld1 1 rfl rfl (fun _ => by kernel_rfl) (by rfl) rfl) ?_)))
      refine T.p2 (vi (e5.seps.length : Int)) (.bool (decide (x22 < (e5.seps.length : Int)))) (fun _ => by kernel_rfl) (T.nil ?_)
      refine T.cond (decide (x22 < (e5.seps.length : Int))) (by kernel_rfl) (by kernel_rfl) (fun hc23 => ?_) (fun hc23 => ?_)
      ·
       rw [hc23, cond_true] at hX17
       refine T.region (T.pk (pB b5 3) (fun _ => by kernel_rfl) (T.look (.slice A13 e5.seps.length c12) (by kernel_rfl) (ld1 1 rfl rfl (fun _ => by kernel_rfl) (by rfl) rfl) ?_))
       refine T.pk (vi x22) (fun _ => by kernel_rfl) ?_
       obtain ⟨e9, hb19, hX17⟩ := ob hX17
       obtain ⟨hi25, hi26, hi27⟩ := idx_some hb19
       refine T.look (.pointer (some ((sadr A13).add (x22.toNat * 4)))) (by kernel_rfl) (fun w' hh => exec_indexAddr (e := 43) (s := 4) rfl rfl rfl (by kernel_rfl) (by kernel_rfl) hi25 hi26 ((SlOk.mono hs12 (vt hV16 hV19)).some_ hi27 (by decide))) ?_
       let v62_ : List Value := [vi e9.key.pfs, vi e9.key.obj, vi e9.key.off, vi e9.made]
       refine T.look (.agg #[vi e9.key.pfs, vi e9.key.obj, vi e9.key.off, vi e9.made]) (by kernel_rfl) (fun w' hh => exec_loadN (cs := v62_) rfl rfl (by kernel_rfl) (by kernel_rfl) (fun j u hj => (hh.cell_view (SlOk.cellF (E := eSpot) (SlOk.mono hs12 (vt hV16 hV19)) hi27 j (fun _ _ _ h => h) hj)))) ?_
       refine T.pk (pB b9 4) (fun _ => by kernel_rfl) ?_
       let v63_ : List Value := [vi z23, vi z24, vi z25, vi z26, vi e9.key.pfs, vi e9.key.obj, vi e9.key.off, vi e9.made, .bool z27, .bool x16]
       refine T.step (W1.st 0 v63_ ((box b9 131 v63_) :: t37_) v62_ (by rfl) rfl rfl rfl rfl rfl rfl (fun _ => by kernel_rfl) ?_)
       refine T.pk (pB b9 9) (fun _ => by kernel_rfl) ?_
       let v64_ : List Value := [vi z23, vi z24, vi z25, vi z26, vi e9.key.pfs, vi e9.key.obj, vi e9.key.off, vi e9.made, .bool z27, .bool true]
       refine T.step (W1.st 0 v64_ ((box b9 131 v64_) :: t37_) [.bool true] (by rfl) rfl rfl rfl rfl rfl rfl (fun _ => by kernel_rfl) ?_)
       refine T.nil ?_
       cases hX17
       exact fun a w' hf hh => ⟨e9.key.pfs, e9.key.obj, e9.key.off, e9.made, true, rfl, (Fr.sel hf rfl), (hh.sub (kp4 (kp1 kpr)))⟩
      rw [hc23, cond_false] at hX17
      refine T.skip_code ?_
      cases hX17
      exact fun a w' hf hh => ⟨x11, x12, x13, x14, x16, rfl, (Fr.sel hf rfl), (hh.sub (kp4 (kp1 kpr)))⟩
     rintro a w' ⟨z32, z33, z34, z35, z36, rfl, hf, hh⟩
     try dsimp only at hX12
     let v65_ : List Value := [vi z23, vi z24, vi z25, vi z26, vi z32, vi z33, vi z34, vi z35, .bool z27, .bool z36]
     let i38_ : HObj := box b9 131 v65_
     refine (?_ : T 175 w V19 (i38_ :: t37_) [(0, pB b3 0), (2, vi x6), (7, pB b4 0), (9, pB b5 0), (12, vi x22), (13, vi e7), (14, pB b9 0), (121, .slice A12 e5.kids.length c11), (122, vi (e5.kids.length : Int)), (123, vi x22)] _) a w' hf hh
     clear hf hh
     refine T.seq ?_
     refine T.held (i38_ :: i10_ :: i2_ :: []) (by kernel_rfl) ?_
     have w78_ := vt (vt (vt hV2 hV4) hV16) hV19
     refine TA.keep (Hp.old vr w78_ (kp3 (dr1 (dr1 kp0))) (oB2 (oB1 ol0))) fun o84_ => ?_
     refine TA.tp 0 (pB b3 0) rfl (fun _ => by kernel_rfl) (fun _ _ _ h => h) o84_ ?_
     refine TA.tp 1 (vi e7) rfl (fun _ => by kernel_rfl) (fun _ _ _ h => h) o84_ ?_
     refine TA.tp 2 (vi x6) rfl (fun _ => by kernel_rfl) (fun _ _ _ h => h) o84_ ?_
     refine TA.tp 3 (vi (IntKind.i64.wrap (x6 + 1))) rfl (fun _ => by kernel_rfl) (fun _ _ _ h => h) o84_ ?_
     let a76_ : Value := .agg #[vi z23, vi z24, vi z25, vi z26, vi z32, vi z33, vi z34, vi z35, .bool z27, .bool z36]
     refine TA.tk 4 a76_ rfl (by kernel_rfl) (fun _ _ _ h => h) o84_ (ldN 0 rfl rfl (fun _ => by kernel_rfl) (by rfl) rfl) ?_
     refine TA.tp 6 (pB b5 4) rfl (fun _ => by kernel_rfl) (fun _ _ _ h => h) o84_ ?_
     refine TA.tk 7 (.slice A14 e5.tids.length c13) rfl (by kernel_rfl) (fun _ _ _ h => h) o84_ (ld1 1 rfl rfl (fun _ => by kernel_rfl) (by rfl) rfl) ?_
     refine TA.tp 8 (vi x22) rfl (fun _ => by kernel_rfl) (fun _ _ _ h => h) o84_ ?_
     obtain ⟨e10, hb20, hX12⟩ := ob hX12
     obtain ⟨hi28, hi29, hi30⟩ := idx_some hb20
     refine TA.tk 9 (.pointer (some ((sadr A14).add (x22.toNat * 1)))) rfl (by kernel_rfl) (fun _ _ _ h => h) o84_ (fun w' hh => exec_indexAddr (e := 3) (s := 1) rfl rfl rfl (by kernel_rfl) (by kernel_rfl) hi28 hi29 ((SlOk.mono hs13 (vt hV16 hV19)).some_ hi30 (by decide))) ?_
     refine TA.tk 10 (vi e10) rfl (by kernel_rfl) (fun _ _ _ h => h) o84_ (fun w' hh => exec_load1 rfl rfl (by kernel_rfl) (hh.cell_view (SlOk.cellF0 (E := eInt) (SlOk.mono hs13 (vt hV16 hV19)) hi30 (fun _ _ _ h => h) rfl))) ?_
     refine TA.all [5] (by kernel_rfl) rfl ⟨?_, trivial⟩
     obtain ⟨q7, hz5, hX12⟩ := ob hX12
     refine TA.br rfl (W1.callI 74 [pB b3 0, vi e7, vi (IntKind.i64.wrap (x6 + 1)), a76_] (fun v w' => ∃ (z37 : List Bool) (z38 : Int) (z39 : Int) (z40 : Int), q7 = (z37, z38, z39, z40) ∧ ∃ (V25 : View), View.le V19 V25 ∧ v = vi z40 ∧ Hp w V25 ((box b3 128 [vi p0.root, .slice A1 p0.nodes.length c1, .slice A6 z37.length ((p0.nodes.length : Int).toNat), vi z38, vi z39]) :: (row 4 eBool A6 ((p0.nodes.length : Int).toNat) z37) :: i38_ :: i10_ :: i2_ :: G1) w') (by kernel_rfl) (fun _ => by kernel_rfl) (fun w' hh => ih1 _ _ hz5 x19 x20 z28 e7 (IntKind.i64.wrap (x6 + 1)) z23 z24 z25 z26 z32 z33 z34 z35 z27 z36 rfl V19 (i38_ :: i10_ :: i2_ :: G1) w' (vt (vt hV4 hV16) hV19) ((hh.sub (kp4 (kp1 kpr))).perm (pt sw2 (pt sw1 (pt sw0 (pc1 (pt sw2 (pt sw1 (pt sw0 pz))))))))) ?_)
     rintro v w' ⟨z37, z38, z39, z40, rfl, V25, hV25, rfl, hh⟩
     try dsimp only at hX12
     let i39_ : HObj := row 4 eBool A6 ((p0.nodes.length : Int).toNat) z37
     refine ⟨V25, (i38_ :: i10_ :: i2_ :: (box b3 128 [vi p0.root, .slice A1 p0.nodes.length c1, .slice A6 z37.length ((p0.nodes.length : Int).toNat), vi z38, vi z39]) :: i39_ :: G1), (hh.sub (kp4 (kp1 kpr))).perm (pt sw1 (pt sw0 (pc1 (pt sw1 (pt sw0 (pc1 (pt sw1 (pt sw0 pz)))))))), ?_⟩
     clear hh
     refine TA.onk (Hp.old hV25 w78_ (kp3 (dr1 (dr1 kp0))) (oB2 (oB1 ol0))) fun o85_ => ?_
     refine TA.tp 11 (.bool (z40 != e10)) rfl (fun _ => by kernel_rfl) (fun _ _ _ h => h) o85_ ?_
     refine TA.done (by kernel_rfl) ?_
     refine T.cond (z40 != e10) (by kernel_rfl) (by kernel_rfl) (fun hc24 => ?_) (fun hc24 => ?_)
     ·
      rw [hc24, cond_true] at hX12
      refine T.region (T.pk (pB b3 0) (fun _ => by kernel_rfl) ?_)
      obtain ⟨z41, hX18, hX12⟩ := ob hX12
      let i40_ : HObj := box b3 128 [vi p0.root, .slice A1 p0.nodes.length c1, .slice A6 z37.length ((p0.nodes.length : Int).toNat), vi z38, vi z41]
      refine T.step (W1.within 75 [pB b3 0, vi 3] (fun v w' => v = .tuple #[] ∧ Hp w V25 (i10_ :: i2_ :: i40_ :: i39_ :: G1) w') Try.func75 rfl rfl (by kernel_rfl) (fun _ => by kernel_rfl) rfl ?_ ?_)
      ·
       refine T.seq (T.region (T.p3 (pB b3 0) (pB b3 0) (pB b3 4) (fun _ => by kernel_rfl) (T.look (vi z39) (by kernel_rfl) (ld1 3 rfl rfl (fun _ => by kernel_rfl) (by rfl) rfl) ?_)))
       refine T.pk (.bool (z39 == 0)) (fun _ => by kernel_rfl) (T.nil ?_)
       refine T.cond (z39 == 0) (by kernel_rfl) (by kernel_rfl) (fun hc25 => ?_) (fun hc25 => ?_)
       ·
        rw [hc25, cond_true] at hX18
        refine T.region (T.p4 (pB b3 0) (vi 3) (pB b3 0) (pB b3 4) (fun _ => by kernel_rfl) ?_)
        let v66_ : List Value := [vi p0.root, .slice A1 p0.nodes.length c1, .slice A6 z37.length ((p0.nodes.length : Int).toNat), vi z38, vi 3]
        refine T.step (W1.st 3 v66_ (i38_ :: i10_ :: i2_ :: (box b3 128 v66_) :: i39_ :: G1) [vi 3] (by rfl) rfl rfl rfl rfl rfl rfl (fun _ => by kernel_rfl) ?_)
        refine T.nil ?_
        cases hX18
        repeat first | refine T.unthen ?_ | refine T.unblock ?_
        exact T.end0 rfl fun w' hh => ⟨_, rfl, ⟨rfl, (hh.sub (dr1 (kp3 (kp1 kpr))))⟩⟩
       rw [hc25, cond_false] at hX18
       refine T.skip_code ?_
       cases hX18
       repeat first | refine T.unthen ?_ | refine T.unblock ?_
       exact T.end0 rfl fun w' hh => ⟨_, rfl, ⟨rfl, (hh.sub (dr1 (kp3 (kp1 kpr))))⟩⟩
      rintro v w' ⟨rfl, hh⟩
      refine ⟨V25, (i10_ :: i2_ :: i40_ :: i39_ :: G1), hh, ?_⟩
      clear hh
      refine T.nil ?_
      cases hX12
      exact fun a w' hf hh => ⟨z37, z38, z41, rfl, V25, (vt hV19 hV25), (Fr.sel hf rfl), (hh.sub (kp3 (kp1 kpr)))⟩
     rw [hc24, cond_false] at hX12
     refine T.skip_code ?_
     cases hX12
     exact fun a w' hf hh => ⟨z37, z38, z39, rfl, V25, (vt hV19 hV25), (Fr.sel hf rfl), (hh.sub (dr1 (kp3 (kp1 kpr))))⟩
    rintro a w' ⟨z20, z21, z22, rfl, V18, hV18, hf, hh⟩
    try dsimp only at hY3
    refine (?_ : T 175 w V18 (i10_ :: i2_ :: (box b3 128 [vi p0.root, .slice A1 p0.nodes.length c1, .slice A6 z20.length ((p0.nodes.length : Int).toNat), vi z21, vi z22]) :: (row 4 eBool A6 ((p0.nodes.length : Int).toNat) z20) :: G1) [(0, pB b3 0), (2, vi x6), (7, pB b4 0), (9, pB b5 0), (121, .slice A12 e5.kids.length c11), (122, vi (e5.kids.length : Int)), (123, vi x22)] _) a w' hf hh
    clear hf hh
    refine T.region (T.p2 (vi (IntKind.i64.wrap (x22 + 1))) (vi (IntKind.i64.wrap (x22 + 1))) (fun _ => by kernel_rfl) (T.nil ?_))
    cases hY3
    exact fun a w' hf hh => ⟨(z20, z21, z22, IntKind.i64.wrap (x22 + 1)), rfl, z20, z21, z22, (IntKind.i64.wrap (x22 + 1)), rfl, V18, (vt hV16 hV18), (Fr.sel hf rfl), (hh.sub (kp3 (kp1 kpr)))⟩
   rw [hc19, cond_false] at hY3
   refine T.exit ?_
   cases hY3
   cases (hr6 _ rfl)
   exact fun a w' hf hh => ⟨x19, x20, x21, rfl, V16, hV16, (Fr.sel hf rfl), (hh.sub (kp1 (dr1 (kp1 (kp1 kpr)))))⟩
  rintro a w' ⟨z17, z18, z19, rfl, V17, hV17, hf, hh⟩
  try dsimp only at hS1
  refine (?_ : T 175 w V17 (i10_ :: (box b3 128 [vi p0.root, .slice A1 p0.nodes.length c1, .slice A6 z17.length ((p0.nodes.length : Int).toNat), vi z18, vi z19]) :: (row 4 eBool A6 ((p0.nodes.length : Int).toNat) z17) :: G1) [(9, pB b5 0)] _) a w' hf hh
  clear hf hh
  refine T.seq (T.region (T.look a72_ (by kernel_rfl) (ldN 0 rfl rfl (fun _ => by kernel_rfl) (by rfl) rfl) ?_))
  obtain ⟨r11, hb21, hS1⟩ := ob hS1
  refine T.step (W1.call (vSc eInt) r11 60 #[a72_] (by kernel_rfl) (fun _ => by kernel_rfl) (fun w' hh => node_Greatest_l F e5 r11 hb21 w' A11 c10 (SlOk.mono (SlOk.mono hs10 hV17) hh.view) A12 c11 (SlOk.mono (SlOk.mono hs11 hV17) hh.view) A13 c12 (SlOk.mono (SlOk.mono hs12 hV17) hh.view) A14 c13 (SlOk.mono (SlOk.mono hs13 hV17) hh.view)) ?_)
  intro u V26 hV26 hu
  obtain rfl := sureInt _ _ _ hu
  refine T.pk (vi r11) (fun _ => by kernel_rfl) (T.nil ?_)
  have hres := Option.some.inj hS1
  subst hres
  refine T.ret rfl ?_
  repeat first | refine T.unthen ?_ | refine T.unblock ?_
  exact T.ret1 rfl (ResIs.tmp rfl) fun w' hh => ⟨_, rfl, ⟨z17, z18, z19, r11, rfl, V26, (vt hV17 hV26), rfl, (hh.sub (dr1 (kp1 (kp1 kpr))))⟩⟩
 refine T.step (W1.callI 74 [pB b3 0, vi p0.root, vi 0, a70_] (fun v w' => ∃ (z42 : List Bool) (z43 : Int) (z44 : Int) (z45 : Int), q2 = (z42, z43, z44, z45) ∧ ∃ (V27 : View), View.le V2 V27 ∧ v = vi z45 ∧ Hp w V27 ((box b3 128 [vi p0.root, .slice A1 p0.nodes.length c1, .slice A6 z42.length ((p0.nodes.length : Int).toNat), vi z43, vi z44]) :: (row 4 eBool A6 ((p0.nodes.length : Int).toNat) z42) :: i1_ :: []) w') (by kernel_rfl) (fun _ => by kernel_rfl) (fun w' hh => hq1 (List.replicate ((p0.nodes.length : Int).toNat) (false : Bool)) (-1) 0 p0.root 0 0 0 0 0 0 0 0 0 false false rfl V2 (i1_ :: []) w' vr (hh.sub (kp2 (kp1 kp0)))) ?_)
 rintro v w' ⟨z42, z43, z44, z45, rfl, V27, hV27, rfl, hh⟩
 try dsimp only at hF
 refine ⟨_, _, hh, ?_⟩
 clear hh
 refine T.nil (T.seq (T.seq (T.region (T.pk (pB b1 1) (fun _ => by kernel_rfl) (T.look (.slice A1 p0.nodes.length c1) (by kernel_rfl) (ld1 2 rfl rfl (fun _ => by kernel_rfl) (by rfl) rfl) ?_)))))
 refine T.p2 (vi (p0.nodes.length : Int)) (vi 0) (fun _ => by kernel_rfl) (T.nil ?_)
 obtain ⟨z46, hz6, hF⟩ := ob hF
 let i41_ : HObj := box b3 128 [vi p0.root, .slice A1 p0.nodes.length c1, .slice A6 z42.length ((p0.nodes.length : Int).toNat), vi z43, vi z46]
 let i42_ : HObj := row 4 eBool A6 ((p0.nodes.length : Int).toNat) z42
 refine T.mid (fun a w' => Fr 66 [(6, pB b3 0)] a ∧ Hp w V27 (i41_ :: i42_ :: []) w') ?_ ?_
 ·
  refine T.block ?_
  refine T.iter (fun s3 a w' => ∃ (x23 : Int) (x24 : Int), s3 = (x23, x24) ∧ Fr 66 [(6, pB b3 0), (39, .slice A1 p0.nodes.length c1), (40, vi (p0.nodes.length : Int)), (41, vi x24)] a ∧ Hp w V27 ((box b3 128 [vi p0.root, .slice A1 p0.nodes.length c1, .slice A6 z42.length ((p0.nodes.length : Int).toNat), vi z43, vi x23]) :: i42_ :: []) w') hz6 ?_ ?_
  ·
   exact fun a w' hf hh => ⟨z44, 0, rfl, (Fr.sel hf rfl), (hh.sub (kp2 (dr1 kp0)))⟩
  rintro s3 y4 hY4 hr7 a w' ⟨x23, x24, rfl, hf, hh⟩
  let i43_ : HObj := box b3 128 [vi p0.root, .slice A1 p0.nodes.length c1, .slice A6 z42.length ((p0.nodes.length : Int).toNat), vi z43, vi x23]
  let t44_ : List HObj := i43_ :: i42_ :: []
  refine (?_ : T 66 w V27 t44_ [(6, pB b3 0), (39, .slice A1 p0.nodes.length c1), (40, vi (p0.nodes.length : Int)), (41, vi x24)] _) a w' hf hh
  clear hf hh
  try dsimp only at hY4
  refine T.seq (T.region (T.pk (.bool (decide (x24 < (p0.nodes.length : Int)))) (fun _ => by kernel_rfl) (T.nil (T.seq ?_))))
  refine T.cond (decide (x24 < (p0.nodes.length : Int))) (by kernel_rfl) (by kernel_rfl) (fun hc26 => ?_) (fun hc26 => ?_)
  ·
   rw [hc26, cond_true] at hY4
   refine T.skip_code ?_
   obtain ⟨z47, hX19, hY4⟩ := ob hY4
   let i45_ : HObj := box b3 128 [vi p0.root, .slice A1 p0.nodes.length c1, .slice A6 z42.length ((p0.nodes.length : Int).toNat), vi z43, vi z47]
   refine T.cut (fun a w' => Fr 66 [(6, pB b3 0), (39, .slice A1 p0.nodes.length c1), (40, vi (p0.nodes.length : Int)), (41, vi x24)] a ∧ Hp w V27 (i45_ :: i42_ :: []) w') ?_ ?_
   ·
    refine T.block (T.seq (T.region (T.pk (vi x24) (fun _ => by kernel_rfl) ?_)))
    obtain ⟨e11, hb22, hX19⟩ := ob hX19
    obtain ⟨hi31, hi32, hi33⟩ := idx_some hb22
    obtain ⟨cs4, hr8, hc27⟩ := SlOk.elem (SlOk.mono hs1 (vt hV2 hV27)) hi33
    obtain ⟨A15, c14, A16, c15, A17, c16, A18, c17, rfl, hs14, hs15, hs16, hs17⟩ := hr8
    refine T.look (.pointer (some ((sadr A1).add (x24.toNat * 5)))) (by kernel_rfl) (fun w' hh => exec_indexAddr (e := 97) (s := 5) rfl rfl rfl (by kernel_rfl) (by kernel_rfl) hi31 hi32 ((SlOk.mono hs1 (vt hV2 hV27)).some_ hi33 (by decide))) ?_
    let v67_ : List Value := [vi e11.kind, .slice A15 e11.elems.length c14, .slice A16 e11.kids.length c15, .slice A17 e11.seps.length c16, .slice A18 e11.tids.length c17]
    refine T.look (.agg #[vi e11.kind, .slice A15 e11.elems.length c14, .slice A16 e11.kids.length c15, .slice A17 e11.seps.length c16, .slice A18 e11.tids.length c17]) (by kernel_rfl) (fun w' hh => exec_loadN (cs := v67_) rfl rfl (by kernel_rfl) (by kernel_rfl) (fun j u hj => hh.cell_view (View.cell_mono vr (hc27 j u hj).2))) ?_
    refine T.step (W1.np 97 [vi 0, sN, sN, sN, sN] (fun _ => by kernel_rfl) (fun b12 => ?_))
    refine T.pk (vi x24) (fun _ => by kernel_rfl) (T.step (W1.st 0 v67_ ((box b12 97 v67_) :: t44_) v67_ (by rfl) rfl rfl rfl rfl rfl rfl (fun _ => by kernel_rfl) ?_))
    refine T.nil ?_
    obtain ⟨z48, hX20, hX19⟩ := ob hX19
    refine T.cut (fun a w' => Fr 66 [(6, pB b3 0), (39, .slice A1 p0.nodes.length c1), (40, vi (p0.nodes.length : Int)), (41, vi x24), (58, .bool z48)] a ∧ Hp w V27 t44_ w') ?_ ?_
    ·
     refine T.region (T.pk (pB b12 0) (fun _ => by kernel_rfl) (T.look (vi e11.kind) (by kernel_rfl) (ld1 0 rfl rfl (fun _ => by kernel_rfl) (by rfl) rfl) ?_))
     refine T.p2 (.bool (e11.kind != 0)) (.bool (e11.kind != 0)) (fun _ => by kernel_rfl) ?_
     cases hg13 : (e11.kind != 0)
     ·
      skip
      rw [hg13, cond_false] at hX20
      refine T.pass (by kernel_rfl) (by kernel_rfl) (T.pass (by kernel_rfl) (by kernel_rfl) (T.pass (by kernel_rfl) (by kernel_rfl) (T.pass (by kernel_rfl) (by kernel_rfl) (T.pass (by kernel_rfl) (by kernel_rfl) (T.pass (by kernel_rfl) (by kernel_rfl) (T.pass (by kernel_rfl) (by kernel_rfl) (T.pass (by kernel_rfl) (by kernel_rfl) (T.pk (.bool false) (fun _ => by kernel_rfl) (T.nil ?_)))))))))
      cases hX20
      exact fun a w' hf hh => ⟨(Fr.sel hf rfl), (hh.sub (dr1 (kp1 (kp1 kp0))))⟩
     skip
     rw [hg13, cond_true] at hX20
     refine T.p3 (pB b3 0) (pB b3 0) (pB b3 2) (fun _ => by kernel_rfl) (T.look (.slice A6 z42.length ((p0.nodes.length : Int).toNat)) (by kernel_rfl) (ld1 1 rfl rfl (fun _ => by kernel_rfl) (by rfl) rfl) ?_)
     refine T.pk (vi x24) (fun _ => by kernel_rfl) ?_
     obtain ⟨e12, hb23, hX20⟩ := ob hX20
     obtain ⟨hi34, hi35, hi36⟩ := idx_some hb23
     refine T.look (.pointer (some ((sadr A6).add (x24.toNat * 1)))) (by kernel_rfl) (ixR 2 (e := 4) (s := 1) rfl rfl rfl (fun _ => by kernel_rfl) hi34 hi35 (by rfl) hi36 (by decide)) ?_
     refine T.look (.bool e12) (by kernel_rfl) (fun w' hh => exec_load1 rfl rfl (by kernel_rfl) (SlOk.wcellF0 (E := eBool) (hh.row_slOk (i := 2) (by rfl)) hi36 (fun _ _ _ h => h) rfl)) ?_
     refine T.p2 (.bool (!e12)) (.bool (!e12)) (fun _ => by kernel_rfl) (T.nil ?_)
     cases hX20
     exact fun a w' hf hh => ⟨(Fr.sel hf rfl), (hh.sub (dr1 (kp1 (kp1 kp0))))⟩
    rintro a w' ⟨hf, hh⟩
    refine (?_ : T 66 w V27 t44_ [(6, pB b3 0), (39, .slice A1 p0.nodes.length c1), (40, vi (p0.nodes.length : Int)), (41, vi x24), (58, .bool z48)] _) a w' hf hh
    clear hf hh
    refine T.cond z48 (by kernel_rfl) (by kernel_rfl) (fun hc28 => ?_) (fun hc28 => ?_)
    ·
     rw [hc28, cond_true] at hX19
     refine T.region (T.pk (pB b3 0) (fun _ => by kernel_rfl) ?_)
     obtain ⟨z49, hX21, hX19⟩ := ob hX19
     let i46_ : HObj := box b3 128 [vi p0.root, .slice A1 p0.nodes.length c1, .slice A6 z42.length ((p0.nodes.length : Int).toNat), vi z43, vi z49]
     refine T.step (W1.within 75 [pB b3 0, vi 3] (fun v w' => v = .tuple #[] ∧ Hp w V27 (i46_ :: i42_ :: []) w') Try.func75 rfl rfl (by kernel_rfl) (fun _ => by kernel_rfl) rfl ?_ ?_)
     ·
      refine T.seq (T.region (T.p3 (pB b3 0) (pB b3 0) (pB b3 4) (fun _ => by kernel_rfl) (T.look (vi x23) (by kernel_rfl) (ld1 0 rfl rfl (fun _ => by kernel_rfl) (by rfl) rfl) ?_)))
      refine T.pk (.bool (x23 == 0)) (fun _ => by kernel_rfl) (T.nil ?_)
      refine T.cond (x23 == 0) (by kernel_rfl) (by kernel_rfl) (fun hc29 => ?_) (fun hc29 => ?_)
      ·
       rw [hc29, cond_true] at hX21
       refine T.region (T.p4 (pB b3 0) (vi 3) (pB b3 0) (pB b3 4) (fun _ => by kernel_rfl) ?_)
       let v68_ : List Value := [vi p0.root, .slice A1 p0.nodes.length c1, .slice A6 z42.length ((p0.nodes.length : Int).toNat), vi z43, vi 3]
       refine T.step (W1.st 0 v68_ ((box b3 128 v68_) :: i42_ :: []) [vi 3] (by rfl) rfl rfl rfl rfl rfl rfl (fun _ => by kernel_rfl) ?_)
       refine T.nil ?_
       cases hX21
       repeat first | refine T.unthen ?_ | refine T.unblock ?_
       exact T.end0 rfl fun w' hh => ⟨_, rfl, ⟨rfl, (hh.sub (kp1 (kp1 kp0)))⟩⟩
      rw [hc29, cond_false] at hX21
      refine T.skip_code ?_
      cases hX21
      repeat first | refine T.unthen ?_ | refine T.unblock ?_
      exact T.end0 rfl fun w' hh => ⟨_, rfl, ⟨rfl, (hh.sub (kp1 (kp1 kp0)))⟩⟩
     rintro v w' ⟨rfl, hh⟩
     refine ⟨V27, (i46_ :: i42_ :: []), hh, ?_⟩
     clear hh
     refine T.nil ?_
     cases hX19
     exact fun a w' hf hh => ⟨(Fr.sel hf rfl), (hh.sub (kp1 (kp1 kp0)))⟩
    rw [hc28, cond_false] at hX19
    refine T.skip_code ?_
    cases hX19
    exact fun a w' hf hh => ⟨(Fr.sel hf rfl), (hh.sub (kp1 (kp1 kp0)))⟩
   rintro a w' ⟨hf, hh⟩
   refine (?_ : T 66 w V27 (i45_ :: i42_ :: []) [(6, pB b3 0), (39, .slice A1 p0.nodes.length c1), (40, vi (p0.nodes.length : Int)), (41, vi x24)] _) a w' hf hh
   clear hf hh
   refine T.region (T.p2 (vi (IntKind.i64.wrap (x24 + 1))) (vi (IntKind.i64.wrap (x24 + 1))) (fun _ => by kernel_rfl) (T.nil ?_))
   cases hY4
   exact fun a w' hf hh => ⟨(z47, IntKind.i64.wrap (x24 + 1)), rfl, z47, (IntKind.i64.wrap (x24 + 1)), rfl, (Fr.sel hf rfl), (hh.sub (kp1 (kp1 kp0)))⟩
  rw [hc26, cond_false] at hY4
  refine T.exit ?_
  cases hY4
  cases (hr7 _ rfl)
  exact fun a w' hf hh => ⟨(Fr.sel hf rfl), (hh.sub (kp1 (kp1 kp0)))⟩
 rintro a w' ⟨hf, hh⟩
 refine (?_ : T 66 w V27 (i41_ :: i42_ :: []) [(6, pB b3 0)] _) a w' hf hh
 clear hf hh
 refine T.seq (T.region (T.p3 (pB b3 0) (pB b3 0) (pB b3 4) (fun _ => by kernel_rfl) (T.look (vi z46) (by kernel_rfl) (ld1 0 rfl rfl (fun _ => by kernel_rfl) (by rfl) rfl) ?_)))
 refine T.pk (vi z46) (fun _ => by kernel_rfl) (T.nil ?_)
 cases hF
 refine T.ret rfl ?_
 exact T.ret1 rfl (ResIs.tmp rfl) fun w' hh => ⟨_, rfl, hh.below, (show _ from rfl)⟩
set_option maxRecDepth 100000 in
set_option maxHeartbeats 4000000 in
theorem tree_All_l (F : Nat) (p0 : DTree) (r : ((List DElem)) × Int) (hF : tree_All F p0 = some r) (w : World) (A1 : Option Addr) (c1 : Nat) (hs1 : SlOk (vw w) eNode A1 c1 p0.nodes) :
 Calls Try.prog 17 #[.agg #[.int .i64 p0.root, .slice A1 p0.nodes.length c1]] w (Post (vT2 (vSc (eList eElem)) (vSc eInt)) r w) := by
 unfold tree_All at hF
 let a109_ : Value := .agg #[vi p0.root, .slice A1 p0.nodes.length c1]
 refine T.startM (l := [a109_]) Try.func17 rfl rfl rfl ?_
 refine T.seq (T.region ?_)
 let v104_ : List Value := [vi p0.root, .slice A1 p0.nodes.length c1]
 refine T.step (W1.np 24 v104_ (fun _ => by kernel_rfl) (fun b1 => ?_))
 refine T.p2 sN (vi 0) (fun _ => by kernel_rfl) (T.nil (T.seq (T.seq (T.region (T.look a109_ (by kernel_rfl) (ldN 0 rfl rfl (fun _ => by kernel_rfl) (by rfl) rfl) ?_)))))
 obtain ⟨r1, hb1, hF⟩ := ob hF
 refine T.step (W1.call (vSc eInt) r1 47 #[a109_] (by kernel_rfl) (fun _ => by kernel_rfl) (fun w' hh => tree_Check_l F p0 r1 hb1 w' A1 c1 (SlOk.mono hs1 hh.view)) ?_)
 intro u V1 hV1 hu
 obtain rfl := sureInt _ _ _ hu
 refine T.pk (vi r1) (fun _ => by kernel_rfl) (T.nil (T.seq (T.region (T.p2 (vi r1) (.bool (r1 != 0)) (fun _ => by kernel_rfl) (T.nil ?_)))))
 refine T.cond (r1 != 0) (by kernel_rfl) (by kernel_rfl) (fun hc1 => ?_) (fun hc1 => ?_)
 ·
  rw [hc1, cond_true] at hF
  refine T.seq (T.region (T.p3 (vi r1) sN (vi r1) (fun _ => by kernel_rfl) (T.nil ?_)))
  cases hF
  refine T.ret rfl ?_
  refine T.leaveM ((box b1 24 v104_) :: []) [] (fun w' hh => hh.sub (kp1 kp0)) ?_
  exact T.ret2 rfl (ResIs.tmp rfl) (ResIs.tmp rfl) fun w' hh => ⟨_, rfl, hh.below, (vT2.mk ⟨_, _, rfl, (SlOk.nil _ _)⟩ (show _ from rfl))⟩
 rw [hc1, cond_false] at hF
 refine T.skip_code ?_
 refine T.seq (T.region (T.step (W1.np 34 [sN] (fun _ => by kernel_rfl) (fun b2 => ?_))))
 refine T.nil (T.seq (T.seq (T.region (T.look a109_ (by kernel_rfl) (ldN 1 rfl rfl (fun _ => by kernel_rfl) (by rfl) rfl) ?_))))
 let i86_ : HObj := box b1 24 v104_
 let t87_ : List HObj := (box b2 34 [sN]) :: i86_ :: []
 refine T.step (W1.within 48 [a109_] (fun v w' => ∃ (b4 : Nat) (b3 : Nat), v = .func (.func 77) #[] #[pB b4 0, pB b3 0] ∧ Hp w V1 ((box b4 133 [.func (.func 76) #[] #[pB b3 0, pB b4 0]]) :: (box b3 24 v104_) :: t87_) w') Try.func48 rfl rfl (by kernel_rfl) (fun _ => by kernel_rfl) rfl ?_ ?_)
 ·
  refine T.seq (T.region (T.step (W1.np 24 v104_ (fun _ => by kernel_rfl) (fun b3 => ?_))))
  refine T.pk (.nilFunc) (fun _ => by kernel_rfl) (T.nil (T.seq (T.region (T.step (W1.np 133 [.nilFunc] (fun _ => by kernel_rfl) (fun b4 => ?_))))))
  refine T.nil (T.seq (T.region (T.pk (.func (.func 76) #[] #[pB b3 0, pB b4 0]) (fun _ => by kernel_rfl) (T.step (W1.st 0 [.func (.func 76) #[] #[pB b3 0, pB b4 0]] ((box b4 133 [.func (.func 76) #[] #[pB b3 0, pB b4 0]]) :: (box b3 24 v104_) :: t87_) [.func (.func 76) #[] #[pB b3 0, pB b4 0]] (by rfl) rfl rfl rfl rfl rfl rfl (fun _ => by kernel_rfl) ?_)))))
  refine T.nil (T.seq (T.region (T.p2 (.func (.func 77) #[] #[pB b4 0, pB b3 0]) (.func (.func 77) #[] #[pB b4 0, pB b3 0]) (fun _ => by kernel_rfl) (T.nil ?_))))
  refine T.ret rfl ?_
  exact T.ret1 rfl (ResIs.tmp rfl) fun w' hh => ⟨_, rfl, ⟨b4, b3, rfl, (hh.sub (kp3 (kp1 kp0)))⟩⟩
 rintro v w' ⟨b4, b3, rfl, hh⟩
 let i88_ : HObj := box b4 133 [.func (.func 76) #[] #[pB b3 0, pB b4 0]]
 let i89_ : HObj := box b3 24 v104_
 refine ⟨V1, (i88_ :: i89_ :: t87_), hh, ?_⟩
 clear hh
 refine T.nil (T.block ?_)
 obtain ⟨z1, hX1, hF⟩ := ob hF
 refine T.range (gf := 77) (lb := [pB b4 0, pB b3 0]) .skip [] (fun l1 d1 lr1 w' => ∃ (A2 : Option Addr) (c2 : Nat) (V2 : View), View.le V1 V2 ∧ Hp w V2 [loopo l1 lr1 .skip [] 0, row 28 eElem A2 c2 z1, marko d1, box b2 34 [.slice A2 z1.length c2]] w') (by kernel_rfl) (by kernel_rfl) (fun _ _ => by kernel_rfl) ?_ ?_
 ·
  intro l1 d1 lr1 hl1 hl2 hl3 hl4 w1 hh
  refine T.startI (l := [.func (.yield l1) #[] #[], pB b4 0, pB b3 0]) Try.func77 rfl rfl rfl ?_ hh
  clear hh
  refine T.region (T.look (.func (.func 76) #[] #[pB b3 0, pB b4 0]) (by kernel_rfl) (ld1 2 rfl rfl (fun _ => by kernel_rfl) (by rfl) rfl) ?_)
  refine T.pk (pB b3 0) (fun _ => by kernel_rfl) (T.look (vi p0.root) (by kernel_rfl) (ld1 3 rfl rfl (fun _ => by kernel_rfl) (by rfl) rfl) ?_)
  refine T.pk (.func (.yield l1) #[] #[]) (fun _ => by kernel_rfl) ?_
  refine T.rownil 28 eElem ?_
  obtain ⟨q1, hz1, hX1⟩ := ob hX1
  refine (have hq1 := fix_rec (fun (s_ : (List DElem) × Int) (r_ : (List DElem)) => ∀ (x1 : List DElem) (x2 : Int), s_ = (x1, x2) → ∀ (A3 : Option Addr) (c3 : Nat) (V3 : View) (G2 : List HObj) (w1 : World), View.le V1 V3 → Hp w V3 ((row 28 eElem A3 c3 x1) :: (loopo l1 lr1 .skip [] 0) :: (marko d1) :: i88_ :: i89_ :: (box b2 34 [.slice A3 x1.length c3]) :: G2) w1 → Calls Try.prog 76 #[vi x2, .func (.yield l1) #[] #[], pB b3 0, pB b4 0] w1 (fun e w2 => ∃ v, e = .returned v ∧ ∃ (z2 : List DElem), r_ = z2 ∧ ∃ (A4 : Option Addr) (c4 : Nat) (V4 : View), View.le V3 V4 ∧ v = .bool true ∧ Hp w V4 ((row 28 eElem A4 c4 z2) :: (loopo l1 lr1 .skip [] 0) :: (marko d1) :: i88_ :: i89_ :: (box b2 34 [.slice A4 z2.length c4]) :: G2) w2)) hz1 ?_; ?_)
  ·
   rintro rf2 ih1 s_ r_ hS1 x1 x2 rfl A3 c3 V3 G2 w1 hV3 hh
   try dsimp only at hS1
   refine T.startI (l := [vi x2, .func (.yield l1) #[] #[], pB b3 0, pB b4 0]) Try.func76 rfl rfl rfl ?_ hh
   clear hh
   refine T.seq (T.region (T.pk (.bool false) (fun _ => by kernel_rfl) (T.nil (T.seq (T.region (T.pk (pB b3 1) (fun _ => by kernel_rfl) (T.look (.slice A1 p0.nodes.length c1) (by kernel_rfl) (ld1 4 rfl rfl (fun _ => by kernel_rfl) (by rfl) rfl) ?_)))))))
   refine T.pk (vi x2) (fun _ => by kernel_rfl) ?_
   obtain ⟨e1, hb2, hS1⟩ := ob hS1
   obtain ⟨hi1, hi2, hi3⟩ := idx_some hb2
   obtain ⟨cs1, hr1, hc2⟩ := SlOk.elem (SlOk.mono hs1 (vt hV1 hV3)) hi3
   obtain ⟨A5, c5, A6, c6, A7, c7, A8, c8, rfl, hs2, hs3, hs4, hs5⟩ := hr1
   refine T.look (.pointer (some ((sadr A1).add (x2.toNat * 5)))) (by kernel_rfl) (fun w' hh => exec_indexAddr (e := 97) (s := 5) rfl rfl rfl (by kernel_rfl) (by kernel_rfl) hi1 hi2 ((SlOk.mono hs1 (vt hV1 hV3)).some_ hi3 (by decide))) ?_
   let v105_ : List Value := [vi e1.kind, .slice A5 e1.elems.length c5, .slice A6 e1.kids.length c6, .slice A7 e1.seps.length c7, .slice A8 e1.tids.length c8]
   refine T.look (.agg #[vi e1.kind, .slice A5 e1.elems.length c5, .slice A6 e1.kids.length c6, .slice A7 e1.seps.length c7, .slice A8 e1.tids.length c8]) (by kernel_rfl) (fun w' hh => exec_loadN (cs := v105_) rfl rfl (by kernel_rfl) (by kernel_rfl) (fun j u hj => hh.cell_view (View.cell_mono vr (hc2 j u hj).2))) ?_
   refine T.step (W1.np 97 [vi 0, sN, sN, sN, sN] (fun _ => by kernel_rfl) (fun b5 => ?_))
   let i90_ : HObj := box b5 97 v105_
   refine T.step (W1.st 0 v105_ (i90_ :: (row 28 eElem A3 c3 x1) :: (loopo l1 lr1 .skip [] 0) :: (marko d1) :: i88_ :: i89_ :: (box b2 34 [.slice A3 x1.length c3]) :: G2) v105_ (by rfl) rfl rfl rfl rfl rfl rfl (fun _ => by kernel_rfl) ?_)
   refine T.nil (T.seq (T.seq (T.region (T.pk (pB b5 1) (fun _ => by kernel_rfl) (T.look (.slice A5 e1.elems.length c5) (by kernel_rfl) (ld1 0 rfl rfl (fun _ => by kernel_rfl) (by rfl) rfl) ?_)))))
   refine T.p2 (vi (e1.elems.length : Int)) (vi 0) (fun _ => by kernel_rfl) (T.nil ?_)
   obtain ⟨z3, hz2, hS1⟩ := ob hS1
   refine T.mid (fun a w' => ∃ (A10 : Option Addr) (c10 : Nat), Fr 42 [(1, .func (.yield l1) #[] #[]), (3, pB b4 0), (7, pB b5 0)] a ∧ Hp w V3 (i90_ :: (row 28 eElem A10 c10 z3) :: (loopo l1 lr1 .skip [] 0) :: (marko d1) :: i88_ :: i89_ :: (box b2 34 [.slice A10 z3.length c10]) :: G2) w') ?_ ?_
   ·
    refine T.block ?_
    refine T.iter (fun s1 a w' => ∃ (x3 : List DElem) (x4 : Int), s1 = (x3, x4) ∧ ∃ (A9 : Option Addr) (c9 : Nat), Fr 42 [(1, .func (.yield l1) #[] #[]), (3, pB b4 0), (7, pB b5 0), (18, .slice A5 e1.elems.length c5), (19, vi (e1.elems.length : Int)), (20, vi x4)] a ∧ Hp w V3 (i90_ :: (row 28 eElem A9 c9 x3) :: (loopo l1 lr1 .skip [] 0) :: (marko d1) :: i88_ :: i89_ :: (box b2 34 [.slice A9 x3.length c9]) :: G2) w') hz2 ?_ ?_
    ·
     exact fun a w' hf hh => ⟨x1, 0, rfl, A3, c3, (Fr.sel hf rfl), (hh.sub (kp6 (kp1 kpr)))⟩
    rintro s1 y1 hY1 hr2 a w' ⟨x3, x4, rfl, A9, c9, hf, hh⟩
    let i91_ : HObj := box b2 34 [.slice A9 x3.length c9]
    let t92_ : List HObj := i89_ :: i91_ :: G2
    let t93_ : List HObj := i88_ :: t92_
    let t94_ : List HObj := (marko d1) :: t93_
    let t95_ : List HObj := (loopo l1 lr1 .skip [] 0) :: t94_
    let t96_ : List HObj := (row 28 eElem A9 c9 x3) :: t95_
    let t97_ : List HObj := i90_ :: t96_
    refine (?_ : T 42 w V3 t97_ [(1, .func (.yield l1) #[] #[]), (3, pB b4 0), (7, pB b5 0), (18, .slice A5 e1.elems.length c5), (19, vi (e1.elems.length : Int)), (20, vi x4)] _) a w' hf hh
    clear hf hh
    try dsimp only at hY1
    refine T.seq (T.region (T.pk (.bool (decide (x4 < (e1.elems.length : Int)))) (fun _ => by kernel_rfl) (T.nil (T.seq ?_))))
    refine T.cond (decide (x4 < (e1.elems.length : Int))) (by kernel_rfl) (by kernel_rfl) (fun hc3 => ?_) (fun hc3 => ?_)
    ·
     rw [hc3, cond_true] at hY1
     refine T.skip_code ?_
     refine T.seq (T.block (T.seq (T.region ?_)))
     obtain ⟨e2, hb3, hY1⟩ := ob hY1
     obtain ⟨hi4, hi5, hi6⟩ := idx_some hb3
     refine T.look (.pointer (some ((sadr A5).add (x4.toNat * 6)))) (by kernel_rfl) (fun w' hh => exec_indexAddr (e := 28) (s := 6) rfl rfl rfl (by kernel_rfl) (by kernel_rfl) hi4 hi5 (hs2.some_ hi6 (by decide))) ?_
     let v106_ : List Value := [vi e2.key.pfs, vi e2.key.obj, vi e2.key.off, vi e2.made, vi e2.gone, .string e2.val]
     let a110_ : Value := .agg #[vi e2.key.pfs, vi e2.key.obj, vi e2.key.off, vi e2.made, vi e2.gone, .string e2.val]
     refine T.look a110_ (by kernel_rfl) (fun w' hh => exec_loadN (cs := v106_) rfl rfl (by kernel_rfl) (by kernel_rfl) (fun j u hj => (hh.cell_view (SlOk.cellF (E := eElem) hs2 hi6 j (fun _ _ _ h => h) hj)))) ?_
     let v107_ : List Value := [vi 0, vi 0, vi 0, vi 0, vi 0, .string (ByteArray.mk #[])]
     refine T.step (W1.np 28 v107_ (fun _ => by kernel_rfl) (fun b6 => ?_))
     let i98_ : HObj := box b6 28 v106_
     refine T.step (W1.st 0 v106_ (i98_ :: t97_) v106_ (by rfl) rfl rfl rfl rfl rfl rfl (fun _ => by kernel_rfl) ?_)
     refine T.nil (T.seq (T.region (T.pk (.func (.yield l1) #[] #[]) (fun _ => by kernel_rfl) (T.look a110_ (by kernel_rfl) (ldN 0 rfl rfl (fun _ => by kernel_rfl) (by rfl) rfl) ?_))))
     obtain ⟨q2, hX2, hY1⟩ := ob hY1
     refine T.stepR (W1R.yield 3 l1 (fun v w' => q2 = () ∧ ∃ (A11 : Option Addr) (c11 : Nat), v = .bool true ∧ Hp w V3 (i98_ :: i90_ :: (row 28 eElem A11 c11 (x3 ++ [e2])) :: (loopo l1 lr1 .skip [] 0) :: (marko d1) :: i88_ :: i89_ :: (box b2 34 [.slice A11 ((x3 ++ [e2]).length) c11]) :: G2) w') (by rfl) hl1 hl2 hl3 hl4 (by rfl) (by kernel_rfl) rfl (by kernel_rfl) rfl ?_ ?_)
     ·
      refine T.region (T.step (W1.np 28 v107_ (fun _ => by kernel_rfl) (fun b7 => ?_)))
      let i99_ : HObj := box b7 28 v106_
      refine T.step (W1.st 0 v106_ (i99_ :: i98_ :: t97_) v106_ (by rfl) rfl rfl rfl rfl rfl rfl (fun _ => by kernel_rfl) ?_)
      refine T.nil ?_
      refine T.unthenN ?_
      refine T.begin 4 (i99_ :: i98_ :: i90_ :: (row 28 eElem A9 c9 x3) :: (busyo l1 lr1) :: t94_) (by rfl) rfl ?_
      refine T.block (T.region (T.look (.slice A9 x3.length c9) (by kernel_rfl) (ld1 8 rfl rfl (fun _ => by kernel_rfl) (by rfl) rfl) ?_))
      refine T.look a110_ (by kernel_rfl) (ldN 0 rfl rfl (fun _ => by kernel_rfl) (by rfl) rfl) ?_
      refine T.step (W1.ns 28 v106_ (fun _ => by kernel_rfl) (fun b8 => ?_))
      obtain ⟨y2, hb4, hX2⟩ := ob hX2
      obtain ⟨hb4_r, hb4_m, rfl⟩ := grow_some hb4
      obtain ⟨ti, hti, hz1, hz2, hz3⟩ := ipTreeL_2
      refine T.step (W1.append (E := eElem) (l := x3) (m := [e2]) 4 _ _ 56 ti _ (by rfl) (by kernel_rfl) rfl (by kernel_rfl) hti hz1 hz2 hz3 rfl (by decide) rfl rfl (fun w' hh => (SlOk.srcF (slok_lit (E := eElem) (f := DElem.cells) [e2] (fun _ _ => rfl) (Nat.le_of_ble_eq_true (by rfl)) (fun j => hh.cellBox (i := 0) (by rfl) j)) (fun _ _ _ _ h => h))) hb4_r hb4_m (fun A12 c12 => ?_))
      let i100_ : HObj := box b8 28 v106_
      let i101_ : HObj := row 28 eElem A12 c12 (x3 ++ [e2])
      let v108_ : List Value := [.slice A12 ((x3 ++ [e2]).length) c12]
      let i102_ : HObj := box b2 34 v108_
      refine T.step (W1.st 9 v108_ (i100_ :: i99_ :: i98_ :: i90_ :: i101_ :: (busyo l1 lr1) :: (marko d1) :: i88_ :: i89_ :: i102_ :: G2) v108_ (by rfl) rfl rfl rfl rfl rfl rfl (fun _ => by kernel_rfl) ?_)
      refine T.nil ?_
      cases hX2
      repeat first | refine T.unthenN ?_ | refine T.unblockN ?_
      exact T.roundEnd .skip [] 5 (i100_ :: i99_ :: i98_ :: i90_ :: i101_ :: (loopo l1 lr1 .skip [] 0) :: (marko d1) :: i88_ :: i89_ :: i102_ :: G2) (by rfl) rfl (fun w' hh => ⟨_, rfl, ⟨rfl, A12, c12, rfl, (hh.sub (dr2 (kp7 (kp1 kpr))))⟩⟩)
     rintro v w' ⟨rfl, A11, c11, rfl, hh⟩
     try dsimp only at hY1
     refine ⟨V3, (i98_ :: i90_ :: (row 28 eElem A11 c11 (x3 ++ [e2])) :: (loopo l1 lr1 .skip [] 0) :: (marko d1) :: i88_ :: i89_ :: (box b2 34 [.slice A11 ((x3 ++ [e2]).length) c11]) :: G2), hh, ?_⟩
     clear hh
     refine T.pk (.bool false) (fun _ => by kernel_rfl) (T.nil ?_)
     refine T.cond false (by kernel_rfl) (by kernel_rfl) (fun h => Bool.noConfusion h) (fun _ => ?_)
     refine T.skip_code ?_
     refine T.region (T.p2 (vi (IntKind.i64.wrap (x4 + 1))) (vi (IntKind.i64.wrap (x4 + 1))) (fun _ => by kernel_rfl) (T.nil ?_))
     cases hY1
     exact fun a w' hf hh => ⟨((x3 ++ [e2]), IntKind.i64.wrap (x4 + 1)), rfl, (x3 ++ [e2]), (IntKind.i64.wrap (x4 + 1)), rfl, A11, c11, (Fr.sel hf rfl), (hh.sub (dr1 (kp6 (kp1 kpr))))⟩
    rw [hc3, cond_false] at hY1
    refine T.exit ?_
    cases hY1
    cases (hr2 _ rfl)
    exact fun a w' hf hh => ⟨A9, c9, (Fr.sel hf rfl), (hh.sub (kp6 (kp1 kpr)))⟩
   rintro a w' ⟨A10, c10, hf, hh⟩
   refine (?_ : T 42 w V3 (i90_ :: (row 28 eElem A10 c10 z3) :: (loopo l1 lr1 .skip [] 0) :: (marko d1) :: i88_ :: i89_ :: (box b2 34 [.slice A10 z3.length c10]) :: G2) [(1, .func (.yield l1) #[] #[]), (3, pB b4 0), (7, pB b5 0)] _) a w' hf hh
   clear hf hh
   refine T.seq (T.seq (T.region (T.pk (pB b5 2) (fun _ => by kernel_rfl) (T.look (.slice A6 e1.kids.length c6) (by kernel_rfl) (ld1 0 rfl rfl (fun _ => by kernel_rfl) (by rfl) rfl) ?_))))
   refine T.p2 (vi (e1.kids.length : Int)) (vi 0) (fun _ => by kernel_rfl) (T.nil ?_)
   obtain ⟨z4, hz3, hS1⟩ := ob hS1
   refine T.mid (fun a w' => ∃ (A14 : Option Addr) (c14 : Nat) (V6 : View), View.le V3 V6 ∧ Fr 42 [] a ∧ Hp w V6 ((row 28 eElem A14 c14 z4) :: (loopo l1 lr1 .skip [] 0) :: (marko d1) :: i88_ :: i89_ :: (box b2 34 [.slice A14 z4.length c14]) :: G2) w') ?_ ?_
   ·
    refine T.block ?_
    refine T.iter (fun s2 a w' => ∃ (x5 : List DElem) (x6 : Int), s2 = (x5, x6) ∧ ∃ (A13 : Option Addr) (c13 : Nat) (V5 : View), View.le V3 V5 ∧ Fr 42 [(1, .func (.yield l1) #[] #[]), (3, pB b4 0), (30, .slice A6 e1.kids.length c6), (31, vi (e1.kids.length : Int)), (32, vi x6)] a ∧ Hp w V5 ((row 28 eElem A13 c13 x5) :: (loopo l1 lr1 .skip [] 0) :: (marko d1) :: i88_ :: i89_ :: (box b2 34 [.slice A13 x5.length c13]) :: G2) w') hz3 ?_ ?_
    ·
     exact fun a w' hf hh => ⟨z3, 0, rfl, A10, c10, V3, vr, (Fr.sel hf rfl), (hh.sub (dr1 (kp5 (kp1 kpr))))⟩
    rintro s2 y3 hY2 hr3 a w' ⟨x5, x6, rfl, A13, c13, V5, hV5, hf, hh⟩
    refine (?_ : T 42 w V5 ((row 28 eElem A13 c13 x5) :: (loopo l1 lr1 .skip [] 0) :: (marko d1) :: i88_ :: i89_ :: (box b2 34 [.slice A13 x5.length c13]) :: G2) [(1, .func (.yield l1) #[] #[]), (3, pB b4 0), (30, .slice A6 e1.kids.length c6), (31, vi (e1.kids.length : Int)), (32, vi x6)] _) a w' hf hh
    clear hf hh
    try dsimp only at hY2
    refine T.seq (T.region (T.pk (.bool (decide (x6 < (e1.kids.length : Int)))) (fun _ => by kernel_rfl) (T.nil (T.seq ?_))))
    refine T.cond (decide (x6 < (e1.kids.length : Int))) (by kernel_rfl) (by kernel_rfl) (fun hc4 => ?_) (fun hc4 => ?_)
    ·
     rw [hc4, cond_true] at hY2
     refine T.skip_code ?_
     refine T.seq (T.block (T.seq (T.region ?_)))
     obtain ⟨e3, hb5, hY2⟩ := ob hY2
     obtain ⟨hi7, hi8, hi9⟩ := idx_some hb5
     refine T.look (.pointer (some ((sadr A6).add (x6.toNat * 1)))) (by kernel_rfl) (fun w' hh => exec_indexAddr (e := 3) (s := 1) rfl rfl rfl (by kernel_rfl) (by kernel_rfl) hi7 hi8 ((SlOk.mono hs3 hV5).some_ hi9 (by decide))) ?_
     refine T.look (vi e3) (by kernel_rfl) (fun w' hh => exec_load1 rfl rfl (by kernel_rfl) (hh.cell_view (SlOk.cellF0 (E := eInt) (SlOk.mono hs3 hV5) hi9 (fun _ _ _ h => h) rfl))) ?_
     refine T.pk (vi e3) (fun _ => by kernel_rfl) (T.nil (T.seq (T.region (T.look (.func (.func 76) #[] #[pB b3 0, pB b4 0]) (by kernel_rfl) (ld1 3 rfl rfl (fun _ => by kernel_rfl) (by rfl) rfl) ?_))))
     refine T.p2 (vi e3) (.func (.yield l1) #[] #[]) (fun _ => by kernel_rfl) ?_
     obtain ⟨z5, hz4, hY2⟩ := ob hY2
     refine T.step (W1.callI 76 [vi e3, .func (.yield l1) #[] #[], pB b3 0, pB b4 0] (fun v w' => ∃ (z5x : List DElem), z5 = z5x ∧ ∃ (A15 : Option Addr) (c15 : Nat) (V7 : View), View.le V5 V7 ∧ v = .bool true ∧ Hp w V7 ((row 28 eElem A15 c15 z5x) :: (loopo l1 lr1 .skip [] 0) :: (marko d1) :: i88_ :: i89_ :: (box b2 34 [.slice A15 z5x.length c15]) :: G2) w') (by kernel_rfl) (fun _ => by kernel_rfl) (fun w' hh => ih1 _ _ hz4 x5 e3 rfl A13 c13 V5 G2 w' (vt hV3 hV5) (hh.sub (kp5 (kp1 kpr)))) ?_)
     rintro v w' ⟨z5x, rfl, A15, c15, V7, hV7, rfl, hh⟩
     try dsimp only at hY2
     refine ⟨_, _, hh, ?_⟩
     clear hh
     refine T.pk (.bool false) (fun _ => by kernel_rfl) (T.nil ?_)
     refine T.cond false (by kernel_rfl) (by kernel_rfl) (fun h => Bool.noConfusion h) (fun _ => ?_)
     refine T.skip_code ?_
     refine T.region (T.p2 (vi (IntKind.i64.wrap (x6 + 1))) (vi (IntKind.i64.wrap (x6 + 1))) (fun _ => by kernel_rfl) (T.nil ?_))
     cases hY2
     exact fun a w' hf hh => ⟨(z5, IntKind.i64.wrap (x6 + 1)), rfl, z5, (IntKind.i64.wrap (x6 + 1)), rfl, A15, c15, V7, (vt hV5 hV7), (Fr.sel hf rfl), (hh.sub (kp5 (kp1 kpr)))⟩
    rw [hc4, cond_false] at hY2
    refine T.exit ?_
    cases hY2
    cases (hr3 _ rfl)
    exact fun a w' hf hh => ⟨A13, c13, V5, hV5, (Fr.nil hf), (hh.sub (kp5 (kp1 kpr)))⟩
   rintro a w' ⟨A14, c14, V6, hV6, hf, hh⟩
   refine (?_ : T 42 w V6 ((row 28 eElem A14 c14 z4) :: (loopo l1 lr1 .skip [] 0) :: (marko d1) :: i88_ :: i89_ :: (box b2 34 [.slice A14 z4.length c14]) :: G2) [] _) a w' hf hh
   clear hf hh
   refine T.seq (T.region (T.pk (.bool true) (fun _ => by kernel_rfl) (T.nil ?_)))
   have hres := Option.some.inj hS1
   subst hres
   refine T.ret rfl ?_
   repeat first | refine T.unthen ?_ | refine T.unblock ?_
   exact T.ret1 rfl (ResIs.tmp rfl) fun w' hh => ⟨_, rfl, ⟨z4, rfl, A14, c14, V6, hV6, rfl, (hh.sub (kp5 (kp1 kpr)))⟩⟩
  refine T.step (W1.callI 76 [vi p0.root, .func (.yield l1) #[] #[], pB b3 0, pB b4 0] (fun v w' => ∃ (q1x : List DElem), q1 = q1x ∧ ∃ (A16 : Option Addr) (c16 : Nat) (V8 : View), View.le V1 V8 ∧ v = .bool true ∧ Hp w V8 ((row 28 eElem A16 c16 q1x) :: (loopo l1 lr1 .skip [] 0) :: (marko d1) :: i88_ :: i89_ :: (box b2 34 [.slice A16 q1x.length c16]) :: i86_ :: []) w') (by kernel_rfl) (fun _ => by kernel_rfl) (fun w' hh => hq1 [] p0.root rfl none 0 V1 (i86_ :: []) w' vr (hh.sub (kp6 (kp1 kp0)))) ?_)
  rintro v w' ⟨q1x, rfl, A16, c16, V8, hV8, rfl, hh⟩
  try dsimp only at hX1
  refine ⟨_, _, hh, ?_⟩
  clear hh
  refine T.nil ?_
  cases hX1
  repeat first | refine T.unthenN ?_ | refine T.unblockN ?_
  exact T.end0 rfl (fun w' hh => ⟨_, rfl, ⟨A16, c16, V8, hV8, ((hh.sub (kp3 (dr2 (kp1 (dr1 kp0))))).perm (pt sw0 pz))⟩⟩)
 rintro l1 d1 lr1 w' ⟨A2, c2, V2, hV2, hh⟩
 let i103_ : HObj := box b2 34 [.slice A2 z1.length c2]
 refine ⟨V2, ((row 28 eElem A2 c2 z1) :: (marko d1) :: i103_ :: []), 0, hh, ?_⟩
 clear hh
 rw [natCase_zero]
 refine T.seq (T.region (T.look (.slice A2 z1.length c2) (by kernel_rfl) (ld1 2 rfl rfl (fun _ => by kernel_rfl) (by rfl) rfl) ?_))
 refine T.p2 (.slice A2 z1.length c2) (vi 0) (fun _ => by kernel_rfl) (T.nil ?_)
 cases hF
 refine T.ret rfl ?_
 refine T.leaveM ((row 28 eElem A2 c2 z1) :: i103_ :: []) [d1] (fun w' hh => (hh.sub (kp2 (kp1 kp0))).perm (pt sw0 pz)) ?_
 exact T.ret2 rfl (ResIs.tmp rfl) (ResIs.tmp rfl) fun w' hh => ⟨_, rfl, hh.below, (vT2.mk ⟨_, _, rfl, (hh.row_fresh (i := 0) (by rfl) (fun _ h => h))⟩ (show _ from rfl))⟩
end Go.Proofs.Ytcmkdoahkncakaa
