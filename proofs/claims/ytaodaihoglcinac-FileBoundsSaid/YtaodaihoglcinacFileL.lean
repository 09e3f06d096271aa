/- The Go functions of group File compute the pure functions of that group: written by walkgen.py. Condition of each: the pure function yields a result. -/
import Derived.Test.YtaodaihoglcinacRunL
import Derived.Test.YtaodaihoglcinacFileF
import Derived.Test.YtaodaihoglcinacEqL
namespace Go.Proofs.Ytaodaihoglcinac
set_option linter.unusedVariables false

set_option maxRecDepth 100000 in
set_option maxHeartbeats 4000000 in
theorem file_block_l (p0 : Int) (p1 : Int) (p2 : Int) (r : DKey) (hF : file_block p0 p1 p2 = some r) (w : World)  :
    Calls Try.prog 12 #[.int .i64 p0, .int .i64 p1, .int .i64 p2] w (Post (vAg eKey) r w) := by
 unfold file_block at hF
 refine T.start (l := [.int .i64 p0, .int .i64 p1, .int .i64 p2]) Try.func12 rfl rfl rfl ?_
 refine T.seq ?_
 refine T.region ?_
 refine T.step (W1.new 29 [.int .i64 0, .int .i64 0, .int .i64 0] (fun b => .pointer (some ⟨b, 0, none⟩)) (by kernel_rfl) (fun _ => by kernel_rfl) (fun b1 => ?_))
 refine T.nil ?_
 refine T.seq ?_
 refine T.region ?_
 refine T.pure (.int .i64 p0) (by kernel_rfl) (fun _ => by kernel_rfl) ?_
 refine T.pure (.int .i64 p1) (by kernel_rfl) (fun _ => by kernel_rfl) ?_
 refine T.pure (.int .i64 p2) (by kernel_rfl) (fun _ => by kernel_rfl) ?_
 refine T.pure (.int .i64 (IntKind.i64.wrap (1 + p2))) (by kernel_rfl) (fun _ => by kernel_rfl) ?_
 refine T.pure (.agg #[.int .i64 p0, .int .i64 p1, .int .i64 (IntKind.i64.wrap (1 + p2))]) (by kernel_rfl) (fun _ => by kernel_rfl) ?_
 refine T.step (W1.store 0 [.int .i64 p0, .int .i64 p1, .int .i64 (IntKind.i64.wrap (1 + p2))] [box b1 29 [.int .i64 p0, .int .i64 p1, .int .i64 (IntKind.i64.wrap (1 + p2))]] (by rfl) rfl (by kernel_rfl) (fun w' hw => exec_store (vs := [.int .i64 p0, .int .i64 p1, .int .i64 (IntKind.i64.wrap (1 + p2))]) rfl rfl rfl rfl (by kernel_rfl) (one_of rfl) (by simp) rfl hw) ?_)
 refine T.nil ?_
 cases hF
 refine T.ret rfl ?_
 exact T.ret1 rfl (ResIs.cellN 0 rfl (by rfl) (fun _ => by kernel_rfl) (fun _ => by kernel_rfl)) fun w' hh => ⟨_, rfl, hh.below, (vAg.mk rfl)⟩

set_option maxRecDepth 100000 in
set_option maxHeartbeats 4000000 in
theorem file_look_l (F : Nat) (p0 : (List DElem)) (p1 : Int) (p2 : Int) (r : Int) (hF : file_look F p0 p1 p2 = some r) (w : World) (A1 : Option Addr) (c1 : Nat) (hs1 : SlOk (vw w) eElem A1 c1 p0) :
    Calls Try.prog 8 #[.slice A1 p0.length c1, .int .i64 p1, .int .i64 p2] w (Post (vSc eInt) r w) := by
 unfold file_look at hF
 refine T.start (l := [.slice A1 p0.length c1, .int .i64 p1, .int .i64 p2]) Try.func8 rfl rfl rfl ?_
 refine T.seq ?_
 refine T.region ?_
 refine T.pure (.int .i64 0) (by kernel_rfl) (fun _ => by kernel_rfl) ?_
 refine T.nil ?_
 refine T.seq ?_
 refine T.seq ?_
 refine T.region ?_
 refine T.pure (.slice A1 p0.length c1) (by kernel_rfl) (fun _ => by kernel_rfl) ?_
 obtain ⟨r1, hb1, hF⟩ := Option.bind_eq_some_iff.1 hF
 refine T.step (W1.call (vSc eInt) r1 20 #[.slice A1 p0.length c1] (by kernel_rfl) (fun _ => by kernel_rfl) (fun w' hh => run_Check_l F p0 r1 hb1 w' A1 c1 (SlOk.mono hs1 hh.view)) ?_)
 intro u V1 hV1 hu
 obtain rfl := sureInt _ _ _ hu
 refine T.pure (.int .i64 r1) (by kernel_rfl) (fun _ => by kernel_rfl) ?_
 refine T.nil ?_
 refine T.seq ?_
 refine T.region ?_
 refine T.pure (.int .i64 r1) (by kernel_rfl) (fun _ => by kernel_rfl) ?_
 refine T.pure (.bool (r1 != 0)) (by kernel_rfl) (fun _ => by kernel_rfl) ?_
 refine T.nil ?_
 refine T.cond (r1 != 0) (by kernel_rfl) (by kernel_rfl) (fun hc1 => ?_) (fun hc1 => ?_)
 ·
  rw [hc1, cond_true] at hF
  refine T.seq ?_
  refine T.region ?_
  refine T.pure (.int .i64 r1) (by kernel_rfl) (fun _ => by kernel_rfl) ?_
  refine T.pure (.int .i64 r1) (by kernel_rfl) (fun _ => by kernel_rfl) ?_
  refine T.nil ?_
  cases hF
  refine T.ret rfl ?_
  exact T.ret1 rfl (ResIs.tmp rfl) fun w' hh => ⟨_, rfl, hh.below, (show _ from rfl)⟩
 ·
  rw [hc1, cond_false] at hF
  refine T.skip_code ?_
  refine T.seq ?_
  refine T.region ?_
  refine T.pure (.int .i64 p1) (by kernel_rfl) (fun _ => by kernel_rfl) ?_
  refine T.pure (.int .i64 p2) (by kernel_rfl) (fun _ => by kernel_rfl) ?_
  obtain ⟨r2, hb2, hF⟩ := Option.bind_eq_some_iff.1 hF
  refine T.step (W1.call (vAg eKey) r2 12 #[.int .i64 p1, .int .i64 p2, .int .i64 0] (by kernel_rfl) (fun _ => by kernel_rfl) (fun w' hh => file_block_l p1 p2 0 r2 hb2 w' ) ?_)
  intro u V2 hV2 hu
  obtain rfl := sureKey _ _ _ hu
  obtain ⟨r3, hb3, hF⟩ := Option.bind_eq_some_iff.1 hF
  refine T.step (W1.call (vSc eInt) r3 7 #[.agg #[.int .i64 r2.pfs, .int .i64 r2.obj, .int .i64 r2.off]] (by kernel_rfl) (fun _ => by kernel_rfl) (fun w' hh => key_Check_l r2 r3 hb3 w' ) ?_)
  intro u V3 hV3 hu
  obtain rfl := sureInt _ _ _ hu
  refine T.pure (.int .i64 r3) (by kernel_rfl) (fun _ => by kernel_rfl) ?_
  refine T.nil ?_
  cases hF
  refine T.ret rfl ?_
  exact T.ret1 rfl (ResIs.tmp rfl) fun w' hh => ⟨_, rfl, hh.below, (show _ from rfl)⟩

set_option maxRecDepth 100000 in
set_option maxHeartbeats 4000000 in
theorem file_Set_l (F : Nat) (p0 : (List DElem)) (p1 : Int) (p2 : Int) (p3 : ByteArray) (p4 : Int) (r : ((List DElem)) × Int) (hF : file_Set F p0 p1 p2 p3 p4 = some r) (w : World) (A1 : Option Addr) (c1 : Nat) (hs1 : SlOk (vw w) eElem A1 c1 p0) :
    Calls Try.prog 4 #[.slice A1 p0.length c1, .int .i64 p1, .int .i64 p2, .string p3, .int .i64 p4] w (Post (vT2 (vSc (eList eElem)) (vSc eInt)) r w) := by
 unfold file_Set at hF
 refine T.start (l := [.slice A1 p0.length c1, .int .i64 p1, .int .i64 p2, .string p3, .int .i64 p4]) Try.func4 rfl rfl rfl ?_
 refine T.seq ?_
 refine T.region ?_
 refine T.pure (.slice none 0 0) (by kernel_rfl) (fun _ => by kernel_rfl) ?_
 refine T.pure (.int .i64 0) (by kernel_rfl) (fun _ => by kernel_rfl) ?_
 refine T.nil ?_
 refine T.seq ?_
 refine T.seq ?_
 refine T.region ?_
 refine T.pure (.slice A1 p0.length c1) (by kernel_rfl) (fun _ => by kernel_rfl) ?_
 refine T.pure (.int .i64 p1) (by kernel_rfl) (fun _ => by kernel_rfl) ?_
 refine T.pure (.int .i64 p2) (by kernel_rfl) (fun _ => by kernel_rfl) ?_
 obtain ⟨r1, hb1, hF⟩ := Option.bind_eq_some_iff.1 hF
 refine T.step (W1.call (vSc eInt) r1 8 #[.slice A1 p0.length c1, .int .i64 p1, .int .i64 p2] (by kernel_rfl) (fun _ => by kernel_rfl) (fun w' hh => file_look_l F p0 p1 p2 r1 hb1 w' A1 c1 (SlOk.mono hs1 hh.view)) ?_)
 intro u V1 hV1 hu
 obtain rfl := sureInt _ _ _ hu
 refine T.pure (.int .i64 r1) (by kernel_rfl) (fun _ => by kernel_rfl) ?_
 refine T.nil ?_
 refine T.seq ?_
 refine T.region ?_
 refine T.pure (.int .i64 r1) (by kernel_rfl) (fun _ => by kernel_rfl) ?_
 refine T.pure (.bool (r1 != 0)) (by kernel_rfl) (fun _ => by kernel_rfl) ?_
 refine T.nil ?_
 refine T.cond (r1 != 0) (by kernel_rfl) (by kernel_rfl) (fun hc1 => ?_) (fun hc1 => ?_)
 ·
  rw [hc1, cond_true] at hF
  refine T.seq ?_
  refine T.region ?_
  refine T.pure (.int .i64 r1) (by kernel_rfl) (fun _ => by kernel_rfl) ?_
  refine T.pure (.slice none 0 0) (by kernel_rfl) (fun _ => by kernel_rfl) ?_
  refine T.pure (.int .i64 r1) (by kernel_rfl) (fun _ => by kernel_rfl) ?_
  refine T.nil ?_
  cases hF
  refine T.ret rfl ?_
  exact T.ret2 rfl (ResIs.tmp rfl) (ResIs.tmp rfl) fun w' hh => ⟨_, rfl, hh.below, (vT2.mk ⟨_, _, rfl, (SlOk.nil _ _)⟩ (show _ from rfl))⟩
 ·
  rw [hc1, cond_false] at hF
  refine T.skip_code ?_
  refine T.seq ?_
  refine T.seq ?_
  refine T.region ?_
  refine T.pure (.string p3) (by kernel_rfl) (fun _ => by kernel_rfl) ?_
  refine T.pure (.int .i64 (p3.size : Int)) (by kernel_rfl) (fun _ => by kernel_rfl) ?_
  refine T.pure (.bool (decide ((320 : Int) < (p3.size : Int)))) (by kernel_rfl) (fun _ => by kernel_rfl) ?_
  refine T.nil ?_
  refine T.cond (decide ((320 : Int) < (p3.size : Int))) (by kernel_rfl) (by kernel_rfl) (fun hc2 => ?_) (fun hc2 => ?_)
  ·
   rw [hc2, cond_true] at hF
   refine T.seq ?_
   refine T.region ?_
   refine T.pure (.slice none 0 0) (by kernel_rfl) (fun _ => by kernel_rfl) ?_
   refine T.pure (.int .i64 2) (by kernel_rfl) (fun _ => by kernel_rfl) ?_
   refine T.nil ?_
   cases hF
   refine T.ret rfl ?_
   exact T.ret2 rfl (ResIs.tmp rfl) (ResIs.tmp rfl) fun w' hh => ⟨_, rfl, hh.below, (vT2.mk ⟨_, _, rfl, (SlOk.nil _ _)⟩ (show _ from rfl))⟩
  ·
   rw [hc2, cond_false] at hF
   refine T.skip_code ?_
   refine T.seq ?_
   refine T.seq ?_
   refine T.region ?_
   refine T.pure (.slice A1 p0.length c1) (by kernel_rfl) (fun _ => by kernel_rfl) ?_
   obtain ⟨r2, hb2, hF⟩ := Option.bind_eq_some_iff.1 hF
   refine T.step (W1.call (vT2 (vSc eInt) (vSc eInt)) r2 9 #[.slice A1 p0.length c1] (by kernel_rfl) (fun _ => by kernel_rfl) (fun w' hh => run_Last_l F p0 r2 hb2 w' A1 c1 (SlOk.mono (SlOk.mono hs1 hV1) hh.view)) ?_)
   intro u V2 hV2 hu
   obtain rfl := (Sure.t2 sureInt sureInt) _ _ _ hu
   refine T.pure (.tuple #[.int .i64 r2.1, .int .i64 r2.2]) (by kernel_rfl) (fun _ => by kernel_rfl) ?_
   refine T.pure (.int .i64 r2.1) (by kernel_rfl) (fun _ => by kernel_rfl) ?_
   refine T.pure (.int .i64 r2.2) (by kernel_rfl) (fun _ => by kernel_rfl) ?_
   refine T.pure (.int .i64 r2.1) (by kernel_rfl) (fun _ => by kernel_rfl) ?_
   refine T.pure (.int .i64 r2.2) (by kernel_rfl) (fun _ => by kernel_rfl) ?_
   refine T.nil ?_
   refine T.cut (fun a w' => Fr 113 [(0, .slice A1 p0.length c1), (1, .int .i64 p1), (2, .int .i64 p2), (3, .string p3), (4, .int .i64 p4), (48, .bool ((decide (p4 < 1)) || ((decide ((2147483647 : Int) < p4)) || (decide (p4 < r2.1)))))] a ∧ Hp w V2 [] w') ?_ ?_
   ·
    refine T.region ?_
    refine T.pure (.int .i64 p4) (by kernel_rfl) (fun _ => by kernel_rfl) ?_
    refine T.pure (.bool (decide (p4 < 1))) (by kernel_rfl) (fun _ => by kernel_rfl) ?_
    refine T.pure (.bool (decide (p4 < 1))) (by kernel_rfl) (fun _ => by kernel_rfl) ?_
    cases hg1 : decide (p4 < 1)
    ·
     skip
     refine T.pure (.int .i64 p4) (by kernel_rfl) (fun _ => by kernel_rfl) ?_
     refine T.pure (.bool (decide ((2147483647 : Int) < p4))) (by kernel_rfl) (fun _ => by kernel_rfl) ?_
     refine T.pure (.bool (decide ((2147483647 : Int) < p4))) (by kernel_rfl) (fun _ => by kernel_rfl) ?_
     refine T.pure (.bool (decide ((2147483647 : Int) < p4))) (by kernel_rfl) (fun _ => by kernel_rfl) ?_
     cases hg2 : decide ((2147483647 : Int) < p4)
     ·
      skip
      refine T.pure (.int .i64 p4) (by kernel_rfl) (fun _ => by kernel_rfl) ?_
      refine T.pure (.int .i64 r2.1) (by kernel_rfl) (fun _ => by kernel_rfl) ?_
      refine T.pure (.bool (decide (p4 < r2.1))) (by kernel_rfl) (fun _ => by kernel_rfl) ?_
      refine T.pure (.bool (decide (p4 < r2.1))) (by kernel_rfl) (fun _ => by kernel_rfl) ?_
      refine T.nil ?_
      exact fun a w' hf hh => And.intro (((((((Fr.nil hf).pick hf 48 rfl).pick hf 4 rfl).pick hf 3 rfl).pick hf 2 rfl).pick hf 1 rfl).pick hf 0 rfl) (hh.sub List.Sublist.slnil)
     ·
      skip
      refine T.pass (by kernel_rfl) (by kernel_rfl) ?_
      refine T.pass (by kernel_rfl) (by kernel_rfl) ?_
      refine T.pass (by kernel_rfl) (by kernel_rfl) ?_
      refine T.pure (.bool true) (by kernel_rfl) (fun _ => by kernel_rfl) ?_
      refine T.nil ?_
      exact fun a w' hf hh => And.intro (((((((Fr.nil hf).pick hf 48 rfl).pick hf 4 rfl).pick hf 3 rfl).pick hf 2 rfl).pick hf 1 rfl).pick hf 0 rfl) (hh.sub List.Sublist.slnil)
    ·
     skip
     refine T.pass (by kernel_rfl) (by kernel_rfl) ?_
     refine T.pass (by kernel_rfl) (by kernel_rfl) ?_
     refine T.pure (.bool true) (by kernel_rfl) (fun _ => by kernel_rfl) ?_
     refine T.pure (.bool true) (by kernel_rfl) (fun _ => by kernel_rfl) ?_
     refine T.pass (by kernel_rfl) (by kernel_rfl) ?_
     refine T.pass (by kernel_rfl) (by kernel_rfl) ?_
     refine T.pass (by kernel_rfl) (by kernel_rfl) ?_
     refine T.pure (.bool true) (by kernel_rfl) (fun _ => by kernel_rfl) ?_
     refine T.nil ?_
     exact fun a w' hf hh => And.intro (((((((Fr.nil hf).pick hf 48 rfl).pick hf 4 rfl).pick hf 3 rfl).pick hf 2 rfl).pick hf 1 rfl).pick hf 0 rfl) (hh.sub List.Sublist.slnil)
   ·
    rintro a w' ⟨hf, hh⟩
    refine (?_ : T 113 w V2 [] [(0, .slice A1 p0.length c1), (1, .int .i64 p1), (2, .int .i64 p2), (3, .string p3), (4, .int .i64 p4), (48, .bool ((decide (p4 < 1)) || ((decide ((2147483647 : Int) < p4)) || (decide (p4 < r2.1)))))] _) a w' hf hh
    clear hf hh
    refine T.cond ((decide (p4 < 1)) || ((decide ((2147483647 : Int) < p4)) || (decide (p4 < r2.1)))) (by kernel_rfl) (by kernel_rfl) (fun hc3 => ?_) (fun hc3 => ?_)
    ·
     rw [hc3, cond_true] at hF
     refine T.seq ?_
     refine T.region ?_
     refine T.pure (.slice none 0 0) (by kernel_rfl) (fun _ => by kernel_rfl) ?_
     refine T.pure (.int .i64 9) (by kernel_rfl) (fun _ => by kernel_rfl) ?_
     refine T.nil ?_
     cases hF
     refine T.ret rfl ?_
     exact T.ret2 rfl (ResIs.tmp rfl) (ResIs.tmp rfl) fun w' hh => ⟨_, rfl, hh.below, (vT2.mk ⟨_, _, rfl, (SlOk.nil _ _)⟩ (show _ from rfl))⟩
    ·
     rw [hc3, cond_false] at hF
     refine T.skip_code ?_
     refine T.seq ?_
     refine T.region ?_
     refine T.pure (.slice A1 p0.length c1) (by kernel_rfl) (fun _ => by kernel_rfl) ?_
     refine T.pure (.int .i64 p1) (by kernel_rfl) (fun _ => by kernel_rfl) ?_
     refine T.pure (.int .i64 p2) (by kernel_rfl) (fun _ => by kernel_rfl) ?_
     obtain ⟨z1, hX1, hF⟩ := Option.bind_eq_some_iff.1 hF
     refine T.step (W1.within 10 [.slice A1 p0.length c1, .int .i64 p1, .int .i64 p2, .int .i64 2147483647] (fun v w' => ∃ (m1 : Nat) (V3 : View), View.le V2 V3 ∧ v = .map (some m1) ∧ Hp w V3 [mapo m1 z1] w') Try.func10 rfl rfl (by kernel_rfl) (fun _ => by kernel_rfl) rfl ?_ ?_)
     ·
      refine T.seq ?_
      refine T.region ?_
      refine T.pure (.map none) (by kernel_rfl) (fun _ => by kernel_rfl) ?_
      refine T.nil ?_
      refine T.seq ?_
      refine T.region ?_
      refine T.step (W1.makeMap (by kernel_rfl) rfl (fun m1 => ?_))
      refine T.pure (.map (some m1)) (by kernel_rfl) (fun _ => by kernel_rfl) ?_
      refine T.nil ?_
      refine T.seq ?_
      refine T.seq ?_
      refine T.region ?_
      refine T.pure (.slice A1 p0.length c1) (by kernel_rfl) (fun _ => by kernel_rfl) ?_
      refine T.pure (.int .i64 (p0.length : Int)) (by kernel_rfl) (fun _ => by kernel_rfl) ?_
      refine T.pure (.int .i64 0) (by kernel_rfl) (fun _ => by kernel_rfl) ?_
      refine T.nil ?_
      obtain ⟨z2, hz1, hX1⟩ := Option.bind_eq_some_iff.1 hX1
      refine T.mid (fun a w' => ∃ (V5 : View), View.le V2 V5 ∧ Fr 55 [(9, .map (some m1))] a ∧ Hp w V5 [mapo m1 z2] w') ?_ ?_
      ·
       refine T.block ?_
       refine T.iter (fun s1 a w' => ∃ (x1 : List (Int × ByteArray)) (x2 : Int), s1 = (x1, x2) ∧ ∃ (V4 : View), View.le V2 V4 ∧ Fr 55 [(1, .int .i64 p1), (2, .int .i64 p2), (3, .int .i64 2147483647), (9, .map (some m1)), (14, .slice A1 p0.length c1), (15, .int .i64 (p0.length : Int)), (16, .int .i64 x2)] a ∧ Hp w V4 [mapo m1 x1] w') hz1 ?_ ?_
       ·
        exact fun a w' hf hh => Exists.intro [] (Exists.intro 0 (And.intro rfl (Exists.intro V2 (And.intro (View.le_refl _) (And.intro ((((((((Fr.nil hf).pick hf 16 rfl).pick hf 15 rfl).pick hf 14 rfl).pick hf 9 rfl).pick hf 3 rfl).pick hf 2 rfl).pick hf 1 rfl) (hh.sub (.cons_cons _ List.Sublist.slnil)))))))
       ·
        rintro s1 y1 hY1 hr1 a w' ⟨x1, x2, rfl, V4, hV4, hf, hh⟩
        refine (?_ : T 55 w V4 [mapo m1 x1] [(1, .int .i64 p1), (2, .int .i64 p2), (3, .int .i64 2147483647), (9, .map (some m1)), (14, .slice A1 p0.length c1), (15, .int .i64 (p0.length : Int)), (16, .int .i64 x2)] _) a w' hf hh
        clear hf hh
        try dsimp only at hY1
        refine T.seq ?_
        refine T.region ?_
        refine T.pure (.bool (decide (x2 < (p0.length : Int)))) (by kernel_rfl) (fun _ => by kernel_rfl) ?_
        refine T.nil ?_
        refine T.seq ?_
        refine T.cond (decide (x2 < (p0.length : Int))) (by kernel_rfl) (by kernel_rfl) (fun hc4 => ?_) (fun hc4 => ?_)
        ·
         rw [hc4, cond_true] at hY1
         refine T.skip_code ?_
         obtain ⟨z3, hX2, hY1⟩ := Option.bind_eq_some_iff.1 hY1
         refine T.cut (fun a w' => ∃ (V6 : View), View.le V4 V6 ∧ Fr 55 [(1, .int .i64 p1), (2, .int .i64 p2), (3, .int .i64 2147483647), (9, .map (some m1)), (14, .slice A1 p0.length c1), (15, .int .i64 (p0.length : Int)), (16, .int .i64 x2)] a ∧ Hp w V6 [mapo m1 z3] w') ?_ ?_
         ·
          refine T.block ?_
          refine T.seq ?_
          refine T.region ?_
          obtain ⟨e1, hb3, hX2⟩ := Option.bind_eq_some_iff.1 hX2
          obtain ⟨hi1, hi2, hi3⟩ := idx_some hb3
          refine T.look (.pointer (some ((sadr A1).add (x2.toNat * 6)))) (by kernel_rfl) (fun w' hh => exec_indexAddr (e := 31) (s := 6) rfl rfl rfl (by kernel_rfl) (by kernel_rfl) hi1 hi2 ((SlOk.mono hs1 (View.le_trans (View.le_trans hV1 hV2) hV4)).some_ hi3 (by decide))) ?_
          refine T.look (.agg #[.int .i64 e1.key.pfs, .int .i64 e1.key.obj, .int .i64 e1.key.off, .int .i64 e1.made, .int .i64 e1.gone, .string e1.val]) (by kernel_rfl) (fun w' hh => exec_loadN (cs := [.int .i64 e1.key.pfs, .int .i64 e1.key.obj, .int .i64 e1.key.off, .int .i64 e1.made, .int .i64 e1.gone, .string e1.val]) rfl rfl (by kernel_rfl) (by kernel_rfl) (fun j u hj => (hh.cell_view (SlOk.cellF (E := eElem) (SlOk.mono hs1 (View.le_trans (View.le_trans hV1 hV2) hV4)) hi3 j (fun _ _ _ h => h) hj)))) ?_
          refine T.step (W1.new 31 [.int .i64 0, .int .i64 0, .int .i64 0, .int .i64 0, .int .i64 0, .string (ByteArray.mk #[])] (fun b => .pointer (some ⟨b, 0, none⟩)) (by kernel_rfl) (fun _ => by kernel_rfl) (fun b1 => ?_))
          refine T.step (W1.store 0 [.int .i64 e1.key.pfs, .int .i64 e1.key.obj, .int .i64 e1.key.off, .int .i64 e1.made, .int .i64 e1.gone, .string e1.val] [box b1 31 [.int .i64 e1.key.pfs, .int .i64 e1.key.obj, .int .i64 e1.key.off, .int .i64 e1.made, .int .i64 e1.gone, .string e1.val], mapo m1 x1] (by rfl) rfl (by kernel_rfl) (fun w' hw => exec_store (vs := [.int .i64 e1.key.pfs, .int .i64 e1.key.obj, .int .i64 e1.key.off, .int .i64 e1.made, .int .i64 e1.gone, .string e1.val]) rfl rfl rfl rfl (by kernel_rfl) (one_of rfl) (by simp) rfl hw) ?_)
          refine T.nil ?_
          refine T.seq ?_
          refine T.region ?_
          refine T.pure (.pointer (some ⟨b1, 0, none⟩)) (by kernel_rfl) (fun _ => by kernel_rfl) ?_
          refine T.pure (.pointer (some ⟨b1, 2, none⟩)) (by kernel_rfl) (fun _ => by kernel_rfl) ?_
          refine T.look (.int .i64 e1.key.off) (by kernel_rfl) (fun w' hh => exec_load1 rfl rfl (by kernel_rfl) (hh.cellBox (i := 0) (by rfl) 2)) ?_
          refine T.pure (.int .i64 (IntKind.i64.wrap (e1.key.off - 1))) (by kernel_rfl) (fun _ => by kernel_rfl) ?_
          refine T.pure (.int .i64 (IntKind.i64.wrap (e1.key.off - 1))) (by kernel_rfl) (fun _ => by kernel_rfl) ?_
          refine T.nil ?_
          obtain ⟨z4, hX3, hX2⟩ := Option.bind_eq_some_iff.1 hX2
          refine T.cut (fun a w' => ∃ (V7 : View), View.le V4 V7 ∧ Fr 55 [(1, .int .i64 p1), (2, .int .i64 p2), (3, .int .i64 2147483647), (9, .map (some m1)), (11, .pointer (some ⟨b1, 0, none⟩)), (12, .int .i64 (IntKind.i64.wrap (e1.key.off - 1))), (14, .slice A1 p0.length c1), (15, .int .i64 (p0.length : Int)), (16, .int .i64 x2), (48, .bool z4)] a ∧ Hp w V7 [box b1 31 [.int .i64 e1.key.pfs, .int .i64 e1.key.obj, .int .i64 e1.key.off, .int .i64 e1.made, .int .i64 e1.gone, .string e1.val], mapo m1 x1] w') ?_ ?_
          ·
           refine T.region ?_
           refine T.pure (.pointer (some ⟨b1, 0, none⟩)) (by kernel_rfl) (fun _ => by kernel_rfl) ?_
           refine T.pure (.pointer (some ⟨b1, 0, none⟩)) (by kernel_rfl) (fun _ => by kernel_rfl) ?_
           refine T.look (.int .i64 e1.key.pfs) (by kernel_rfl) (fun w' hh => exec_load1 rfl rfl (by kernel_rfl) (hh.cellBox (i := 0) (by rfl) 0)) ?_
           refine T.pure (.int .i64 p1) (by kernel_rfl) (fun _ => by kernel_rfl) ?_
           refine T.pure (.bool (e1.key.pfs == p1)) (by kernel_rfl) (fun _ => by kernel_rfl) ?_
           refine T.pure (.bool (e1.key.pfs == p1)) (by kernel_rfl) (fun _ => by kernel_rfl) ?_
           cases hg3 : (e1.key.pfs == p1)
           ·
            skip
            rw [hg3, cond_false] at hX3
            refine T.pass (by kernel_rfl) (by kernel_rfl) ?_
            refine T.pass (by kernel_rfl) (by kernel_rfl) ?_
            refine T.pass (by kernel_rfl) (by kernel_rfl) ?_
            refine T.pass (by kernel_rfl) (by kernel_rfl) ?_
            refine T.pass (by kernel_rfl) (by kernel_rfl) ?_
            refine T.pure (.bool false) (by kernel_rfl) (fun _ => by kernel_rfl) ?_
            refine T.pure (.bool false) (by kernel_rfl) (fun _ => by kernel_rfl) ?_
            refine T.pass (by kernel_rfl) (by kernel_rfl) ?_
            refine T.pass (by kernel_rfl) (by kernel_rfl) ?_
            refine T.pure (.bool false) (by kernel_rfl) (fun _ => by kernel_rfl) ?_
            refine T.pure (.bool false) (by kernel_rfl) (fun _ => by kernel_rfl) ?_
            refine T.pass (by kernel_rfl) (by kernel_rfl) ?_
            refine T.pass (by kernel_rfl) (by kernel_rfl) ?_
            refine T.pure (.bool false) (by kernel_rfl) (fun _ => by kernel_rfl) ?_
            refine T.pure (.bool false) (by kernel_rfl) (fun _ => by kernel_rfl) ?_
            refine T.pass (by kernel_rfl) (by kernel_rfl) ?_
            refine T.pass (by kernel_rfl) (by kernel_rfl) ?_
            refine T.pass (by kernel_rfl) (by kernel_rfl) ?_
            refine T.pure (.bool false) (by kernel_rfl) (fun _ => by kernel_rfl) ?_
            refine T.nil ?_
            cases hX3
            exact fun a w' hf hh => Exists.intro V4 (And.intro (View.le_refl _) (And.intro (((((((((((Fr.nil hf).pick hf 48 rfl).pick hf 16 rfl).pick hf 15 rfl).pick hf 14 rfl).pick hf 12 rfl).pick hf 11 rfl).pick hf 9 rfl).pick hf 3 rfl).pick hf 2 rfl).pick hf 1 rfl) (hh.sub (.cons_cons _ (.cons_cons _ List.Sublist.slnil)))))
           ·
            skip
            rw [hg3, cond_true] at hX3
            refine T.pure (.pointer (some ⟨b1, 0, none⟩)) (by kernel_rfl) (fun _ => by kernel_rfl) ?_
            refine T.pure (.pointer (some ⟨b1, 1, none⟩)) (by kernel_rfl) (fun _ => by kernel_rfl) ?_
            refine T.look (.int .i64 e1.key.obj) (by kernel_rfl) (fun w' hh => exec_load1 rfl rfl (by kernel_rfl) (hh.cellBox (i := 0) (by rfl) 1)) ?_
            refine T.pure (.int .i64 p2) (by kernel_rfl) (fun _ => by kernel_rfl) ?_
            refine T.pure (.bool (e1.key.obj == p2)) (by kernel_rfl) (fun _ => by kernel_rfl) ?_
            refine T.pure (.bool (e1.key.obj == p2)) (by kernel_rfl) (fun _ => by kernel_rfl) ?_
            refine T.pure (.bool (e1.key.obj == p2)) (by kernel_rfl) (fun _ => by kernel_rfl) ?_
            cases hg4 : (e1.key.obj == p2)
            ·
             skip
             rw [hg4, cond_false] at hX3
             refine T.pass (by kernel_rfl) (by kernel_rfl) ?_
             refine T.pass (by kernel_rfl) (by kernel_rfl) ?_
             refine T.pure (.bool false) (by kernel_rfl) (fun _ => by kernel_rfl) ?_
             refine T.pure (.bool false) (by kernel_rfl) (fun _ => by kernel_rfl) ?_
             refine T.pass (by kernel_rfl) (by kernel_rfl) ?_
             refine T.pass (by kernel_rfl) (by kernel_rfl) ?_
             refine T.pure (.bool false) (by kernel_rfl) (fun _ => by kernel_rfl) ?_
             refine T.pure (.bool false) (by kernel_rfl) (fun _ => by kernel_rfl) ?_
             refine T.pass (by kernel_rfl) (by kernel_rfl) ?_
             refine T.pass (by kernel_rfl) (by kernel_rfl) ?_
             refine T.pass (by kernel_rfl) (by kernel_rfl) ?_
             refine T.pure (.bool false) (by kernel_rfl) (fun _ => by kernel_rfl) ?_
             refine T.nil ?_
             cases hX3
             exact fun a w' hf hh => Exists.intro V4 (And.intro (View.le_refl _) (And.intro (((((((((((Fr.nil hf).pick hf 48 rfl).pick hf 16 rfl).pick hf 15 rfl).pick hf 14 rfl).pick hf 12 rfl).pick hf 11 rfl).pick hf 9 rfl).pick hf 3 rfl).pick hf 2 rfl).pick hf 1 rfl) (hh.sub (.cons_cons _ (.cons_cons _ List.Sublist.slnil)))))
            ·
             skip
             rw [hg4, cond_true] at hX3
             refine T.pure (.int .i64 (IntKind.i64.wrap (e1.key.off - 1))) (by kernel_rfl) (fun _ => by kernel_rfl) ?_
             refine T.pure (.bool (decide ((0 : Int) ≤ (IntKind.i64.wrap (e1.key.off - 1))))) (by kernel_rfl) (fun _ => by kernel_rfl) ?_
             refine T.pure (.bool (decide ((0 : Int) ≤ (IntKind.i64.wrap (e1.key.off - 1))))) (by kernel_rfl) (fun _ => by kernel_rfl) ?_
             refine T.pure (.bool (decide ((0 : Int) ≤ (IntKind.i64.wrap (e1.key.off - 1))))) (by kernel_rfl) (fun _ => by kernel_rfl) ?_
             cases hg5 : decide ((0 : Int) ≤ (IntKind.i64.wrap (e1.key.off - 1)))
             ·
              skip
              rw [hg5, cond_false] at hX3
              refine T.pass (by kernel_rfl) (by kernel_rfl) ?_
              refine T.pass (by kernel_rfl) (by kernel_rfl) ?_
              refine T.pure (.bool false) (by kernel_rfl) (fun _ => by kernel_rfl) ?_
              refine T.pure (.bool false) (by kernel_rfl) (fun _ => by kernel_rfl) ?_
              refine T.pass (by kernel_rfl) (by kernel_rfl) ?_
              refine T.pass (by kernel_rfl) (by kernel_rfl) ?_
              refine T.pass (by kernel_rfl) (by kernel_rfl) ?_
              refine T.pure (.bool false) (by kernel_rfl) (fun _ => by kernel_rfl) ?_
              refine T.nil ?_
              cases hX3
              exact fun a w' hf hh => Exists.intro V4 (And.intro (View.le_refl _) (And.intro (((((((((((Fr.nil hf).pick hf 48 rfl).pick hf 16 rfl).pick hf 15 rfl).pick hf 14 rfl).pick hf 12 rfl).pick hf 11 rfl).pick hf 9 rfl).pick hf 3 rfl).pick hf 2 rfl).pick hf 1 rfl) (hh.sub (.cons_cons _ (.cons_cons _ List.Sublist.slnil)))))
             ·
              skip
              rw [hg5, cond_true] at hX3
              refine T.pure (.int .i64 (IntKind.i64.wrap (e1.key.off - 1))) (by kernel_rfl) (fun _ => by kernel_rfl) ?_
              refine T.pure (.bool (decide ((IntKind.i64.wrap (e1.key.off - 1)) < 20))) (by kernel_rfl) (fun _ => by kernel_rfl) ?_
              refine T.pure (.bool (decide ((IntKind.i64.wrap (e1.key.off - 1)) < 20))) (by kernel_rfl) (fun _ => by kernel_rfl) ?_
              refine T.pure (.bool (decide ((IntKind.i64.wrap (e1.key.off - 1)) < 20))) (by kernel_rfl) (fun _ => by kernel_rfl) ?_
              cases hg6 : decide ((IntKind.i64.wrap (e1.key.off - 1)) < 20)
              ·
               skip
               rw [hg6, cond_false] at hX3
               refine T.pass (by kernel_rfl) (by kernel_rfl) ?_
               refine T.pass (by kernel_rfl) (by kernel_rfl) ?_
               refine T.pass (by kernel_rfl) (by kernel_rfl) ?_
               refine T.pure (.bool false) (by kernel_rfl) (fun _ => by kernel_rfl) ?_
               refine T.nil ?_
               cases hX3
               exact fun a w' hf hh => Exists.intro V4 (And.intro (View.le_refl _) (And.intro (((((((((((Fr.nil hf).pick hf 48 rfl).pick hf 16 rfl).pick hf 15 rfl).pick hf 14 rfl).pick hf 12 rfl).pick hf 11 rfl).pick hf 9 rfl).pick hf 3 rfl).pick hf 2 rfl).pick hf 1 rfl) (hh.sub (.cons_cons _ (.cons_cons _ List.Sublist.slnil)))))
              ·
               skip
               rw [hg6, cond_true] at hX3
               refine T.look (.agg #[.int .i64 e1.key.pfs, .int .i64 e1.key.obj, .int .i64 e1.key.off, .int .i64 e1.made, .int .i64 e1.gone, .string e1.val]) (by kernel_rfl) (fun w' hh => exec_loadN (cs := [.int .i64 e1.key.pfs, .int .i64 e1.key.obj, .int .i64 e1.key.off, .int .i64 e1.made, .int .i64 e1.gone, .string e1.val]) rfl rfl (by kernel_rfl) (by kernel_rfl) (fun j u hj => (hh.box_at (i := 0) (cs := [.int .i64 e1.key.pfs, .int .i64 e1.key.obj, .int .i64 e1.key.off, .int .i64 e1.made, .int .i64 e1.gone, .string e1.val]) (by rfl) 0 j).trans (seg_at (n := 6) (by rfl) hj))) ?_
               refine T.pure (.int .i64 2147483647) (by kernel_rfl) (fun _ => by kernel_rfl) ?_
               obtain ⟨r3, hb4, hX3⟩ := Option.bind_eq_some_iff.1 hX3
               refine T.step (W1.call (vSc eBool) r3 22 #[.agg #[.int .i64 e1.key.pfs, .int .i64 e1.key.obj, .int .i64 e1.key.off, .int .i64 e1.made, .int .i64 e1.gone, .string e1.val], .int .i64 2147483647] (by kernel_rfl) (fun _ => by kernel_rfl) (fun w' hh => elem_Live_l e1 2147483647 r3 hb4 w' ) ?_)
               intro u V8 hV8 hu
               obtain rfl := sureBool _ _ _ hu
               refine T.pure (.bool r3) (by kernel_rfl) (fun _ => by kernel_rfl) ?_
               refine T.nil ?_
               cases hX3
               exact fun a w' hf hh => Exists.intro V8 (And.intro hV8 (And.intro (((((((((((Fr.nil hf).pick hf 48 rfl).pick hf 16 rfl).pick hf 15 rfl).pick hf 14 rfl).pick hf 12 rfl).pick hf 11 rfl).pick hf 9 rfl).pick hf 3 rfl).pick hf 2 rfl).pick hf 1 rfl) (hh.sub (.cons_cons _ (.cons_cons _ List.Sublist.slnil)))))
          ·
           rintro a w' ⟨V7, hV7, hf, hh⟩
           refine (?_ : T 55 w V7 [box b1 31 [.int .i64 e1.key.pfs, .int .i64 e1.key.obj, .int .i64 e1.key.off, .int .i64 e1.made, .int .i64 e1.gone, .string e1.val], mapo m1 x1] [(1, .int .i64 p1), (2, .int .i64 p2), (3, .int .i64 2147483647), (9, .map (some m1)), (11, .pointer (some ⟨b1, 0, none⟩)), (12, .int .i64 (IntKind.i64.wrap (e1.key.off - 1))), (14, .slice A1 p0.length c1), (15, .int .i64 (p0.length : Int)), (16, .int .i64 x2), (48, .bool z4)] _) a w' hf hh
           clear hf hh
           refine T.cond z4 (by kernel_rfl) (by kernel_rfl) (fun hc5 => ?_) (fun hc5 => ?_)
           ·
            rw [hc5, cond_true] at hX2
            refine T.region ?_
            refine T.pure (.map (some m1)) (by kernel_rfl) (fun _ => by kernel_rfl) ?_
            refine T.pure (.int .i64 (IntKind.i64.wrap (e1.key.off - 1))) (by kernel_rfl) (fun _ => by kernel_rfl) ?_
            refine T.pure (.pointer (some ⟨b1, 5, none⟩)) (by kernel_rfl) (fun _ => by kernel_rfl) ?_
            refine T.look (.string e1.val) (by kernel_rfl) (fun w' hh => exec_load1 rfl rfl (by kernel_rfl) (hh.cellBox (i := 0) (by rfl) 5)) ?_
            refine T.step (W1.mapUpdate (kt := 3) (et := 9) 1 (by rfl) (by kernel_rfl) rfl rfl rfl rfl (by kernel_rfl) (by kernel_rfl) ?_)
            refine T.nil ?_
            cases hX2
            exact fun a w' hf hh => Exists.intro V7 (And.intro hV7 (And.intro ((((((((Fr.nil hf).pick hf 16 rfl).pick hf 15 rfl).pick hf 14 rfl).pick hf 9 rfl).pick hf 3 rfl).pick hf 2 rfl).pick hf 1 rfl) (hh.sub (.cons _ (.cons_cons _ List.Sublist.slnil)))))
           ·
            rw [hc5, cond_false] at hX2
            refine T.skip_code ?_
            cases hX2
            exact fun a w' hf hh => Exists.intro V7 (And.intro hV7 (And.intro ((((((((Fr.nil hf).pick hf 16 rfl).pick hf 15 rfl).pick hf 14 rfl).pick hf 9 rfl).pick hf 3 rfl).pick hf 2 rfl).pick hf 1 rfl) (hh.sub (.cons _ (.cons_cons _ List.Sublist.slnil)))))
         ·
          rintro a w' ⟨V6, hV6, hf, hh⟩
          refine (?_ : T 55 w V6 [mapo m1 z3] [(1, .int .i64 p1), (2, .int .i64 p2), (3, .int .i64 2147483647), (9, .map (some m1)), (14, .slice A1 p0.length c1), (15, .int .i64 (p0.length : Int)), (16, .int .i64 x2)] _) a w' hf hh
          clear hf hh
          refine T.region ?_
          refine T.pure (.int .i64 (IntKind.i64.wrap (x2 + 1))) (by kernel_rfl) (fun _ => by kernel_rfl) ?_
          refine T.pure (.int .i64 (IntKind.i64.wrap (x2 + 1))) (by kernel_rfl) (fun _ => by kernel_rfl) ?_
          refine T.nil ?_
          cases hY1
          exact fun a w' hf hh => Exists.intro (z3, IntKind.i64.wrap (x2 + 1)) (And.intro rfl (Exists.intro z3 (Exists.intro (IntKind.i64.wrap (x2 + 1)) (And.intro rfl (Exists.intro V6 (And.intro (View.le_trans hV4 hV6) (And.intro ((((((((Fr.nil hf).pick hf 16 rfl).pick hf 15 rfl).pick hf 14 rfl).pick hf 9 rfl).pick hf 3 rfl).pick hf 2 rfl).pick hf 1 rfl) (hh.sub (.cons_cons _ List.Sublist.slnil)))))))))
        ·
         rw [hc4, cond_false] at hY1
         refine T.exit ?_
         cases hY1
         cases (hr1 _ rfl)
         exact fun a w' hf hh => Exists.intro V4 (And.intro hV4 (And.intro ((Fr.nil hf).pick hf 9 rfl) (hh.sub (.cons_cons _ List.Sublist.slnil))))
      ·
       rintro a w' ⟨V5, hV5, hf, hh⟩
       refine (?_ : T 55 w V5 [mapo m1 z2] [(9, .map (some m1))] _) a w' hf hh
       clear hf hh
       refine T.seq ?_
       refine T.region ?_
       refine T.pure (.map (some m1)) (by kernel_rfl) (fun _ => by kernel_rfl) ?_
       refine T.pure (.map (some m1)) (by kernel_rfl) (fun _ => by kernel_rfl) ?_
       refine T.nil ?_
       cases hX1
       refine T.ret rfl ?_
       exact T.ret1 rfl (ResIs.tmp rfl) fun w' hh => ⟨_, rfl, Exists.intro m1 (Exists.intro V5 (And.intro hV5 (And.intro rfl (hh.sub (.cons_cons _ List.Sublist.slnil)))))⟩
     ·
      rintro v w' ⟨m1, V3, hV3, rfl, hh⟩
      refine ⟨V3, [mapo m1 z1], hh, ?_⟩
      clear hh
      refine T.pure (.map (some m1)) (by kernel_rfl) (fun _ => by kernel_rfl) ?_
      refine T.nil ?_
      refine T.seq ?_
      refine T.region ?_
      refine T.pure (.slice A1 p0.length c1) (by kernel_rfl) (fun _ => by kernel_rfl) ?_
      refine T.rownil 31 eElem ?_
      obtain ⟨y2, hb5, hF⟩ := Option.bind_eq_some_iff.1 hF
      obtain ⟨hb5_r, hb5_m, rfl⟩ := grow_some hb5
      obtain ⟨ti, hti, hz1, hz2, hz3⟩ := info_parts (P := Try.prog) (e := 31) (z := .agg #[.int .i64 0, .int .i64 0, .int .i64 0, .int .i64 0, .int .i64 0, .string (ByteArray.mk #[])]) (size := 6) (bytes := 56) (by kernel_rfl)
      refine T.step (W1.append (E := eElem) (l := ([] : List DElem)) (m := p0) 0 _ _ 56 ti _ (by rfl) (by kernel_rfl) rfl (by kernel_rfl) hti hz1 hz2 hz3 rfl (by decide) rfl rfl (fun w' hh => (SlOk.srcF (SlOk.mono (SlOk.mono hs1 (View.le_trans (View.le_trans hV1 hV2) hV3)) hh.view) (fun _ _ _ _ h => h))) hb5_r hb5_m (fun A2 c2 => ?_))
      refine T.pure (.slice A2 ((([] : List DElem) ++ p0).length) c2) (by kernel_rfl) (fun _ => by kernel_rfl) ?_
      refine T.nil ?_
      refine T.seq ?_
      refine T.seq ?_
      refine T.region ?_
      refine T.pure (.int .i64 0) (by kernel_rfl) (fun _ => by kernel_rfl) ?_
      refine T.nil ?_
      refine T.freezeF (E := eElem) (H' := [mapo m1 z1]) 0 (by rfl) rfl (fun _ _ _ _ h => h) (fun V9 hV9 hs2 => ?_)
      obtain ⟨q1, hz2, hF⟩ := Option.bind_eq_some_iff.1 hF
      refine T.mid (fun a w' => ∃ (z5 : List DElem), q1 = Sum.inl z5 ∧ ∃ (A4 : Option Addr) (c4 : Nat) (V11 : View), View.le V9 V11 ∧ SlOk (made w V11) eElem A4 c4 z5 ∧ Fr 113 [(16, .slice A4 z5.length c4)] a ∧ Hp w V11 [] w') ?_ ?_
      ·
       refine T.block ?_
       refine T.iter (fun s2 a w' => ∃ (x3 : List DElem) (x4 : Int), s2 = (x3, x4) ∧ ∃ (A3 : Option Addr) (c3 : Nat) (V10 : View), View.le V9 V10 ∧ SlOk (made w V10) eElem A3 c3 x3 ∧ Fr 113 [(1, .int .i64 p1), (2, .int .i64 p2), (3, .string p3), (4, .int .i64 p4), (15, .map (some m1)), (16, .slice A3 x3.length c3), (55, .int .i64 x4)] a ∧ Hp w V10 [mapo m1 z1] w') hz2 ?_ ?_
       ·
        exact fun a w' hf hh => Exists.intro (([] : List DElem) ++ p0) (Exists.intro 0 (And.intro rfl (Exists.intro A2 (Exists.intro c2 (Exists.intro V9 (And.intro (View.le_refl _) (And.intro (SlOk.mono hs2 (made_mono (View.le_refl _))) (And.intro ((((((((Fr.nil hf).pick hf 55 rfl).pick hf 16 rfl).pick hf 15 rfl).pick hf 4 rfl).pick hf 3 rfl).pick hf 2 rfl).pick hf 1 rfl) (hh.sub (.cons_cons _ List.Sublist.slnil))))))))))
       ·
        rintro s2 y3 hY2 hr2 a w' ⟨x3, x4, rfl, A3, c3, V10, hV10, hs3, hf, hh⟩
        refine (?_ : T 113 w V10 [mapo m1 z1] [(1, .int .i64 p1), (2, .int .i64 p2), (3, .string p3), (4, .int .i64 p4), (15, .map (some m1)), (16, .slice A3 x3.length c3), (55, .int .i64 x4)] _) a w' hf hh
        clear hf hh
        try dsimp only at hY2
        refine T.seq ?_
        refine T.region ?_
        refine T.pure (.bool (decide (x4 < 20))) (by kernel_rfl) (fun _ => by kernel_rfl) ?_
        refine T.nil ?_
        refine T.seq ?_
        refine T.cond (decide (x4 < 20)) (by kernel_rfl) (by kernel_rfl) (fun hc6 => ?_) (fun hc6 => ?_)
        ·
         rw [hc6, cond_true] at hY2
         refine T.skip_code ?_
         obtain ⟨q2, hX4, hY2⟩ := Option.bind_eq_some_iff.1 hY2
         refine T.cut (fun a w' => ∃ (z6 : List DElem), q2 = Sum.inl z6 ∧ ∃ (A5 : Option Addr) (c5 : Nat) (V12 : View), View.le V10 V12 ∧ SlOk (made w V12) eElem A5 c5 z6 ∧ Fr 113 [(1, .int .i64 p1), (2, .int .i64 p2), (3, .string p3), (4, .int .i64 p4), (15, .map (some m1)), (16, .slice A5 z6.length c5), (55, .int .i64 x4)] a ∧ Hp w V12 [mapo m1 z1] w') ?_ ?_
         ·
          refine T.block ?_
          refine T.seq ?_
          refine T.region ?_
          refine T.pure (.int .i64 x4) (by kernel_rfl) (fun _ => by kernel_rfl) ?_
          refine T.pure (.int .i64 x4) (by kernel_rfl) (fun _ => by kernel_rfl) ?_
          refine T.nil ?_
          refine T.seq ?_
          refine T.region ?_
          refine T.pure (.map (some m1)) (by kernel_rfl) (fun _ => by kernel_rfl) ?_
          refine T.pure (.int .i64 x4) (by kernel_rfl) (fun _ => by kernel_rfl) ?_
          refine T.look (.tuple #[.string (mget z1 x4), .bool (mhas z1 x4)]) (by kernel_rfl) (fun w' hh => exec_lookupOk (kt := 3) (et := 9) 0 hh (by rfl) rfl rfl rfl (by kernel_rfl) (by kernel_rfl) (by kernel_rfl)) ?_
          refine T.pure (.tuple #[.string (mget z1 x4), .bool (mhas z1 x4)]) (by kernel_rfl) (fun _ => by kernel_rfl) ?_
          refine T.pure (.string (mget z1 x4)) (by kernel_rfl) (fun _ => by kernel_rfl) ?_
          refine T.pure (.bool (mhas z1 x4)) (by kernel_rfl) (fun _ => by kernel_rfl) ?_
          refine T.pure (.string (mget z1 x4)) (by kernel_rfl) (fun _ => by kernel_rfl) ?_
          refine T.pure (.bool (mhas z1 x4)) (by kernel_rfl) (fun _ => by kernel_rfl) ?_
          refine T.nil ?_
          refine T.seq ?_
          refine T.region ?_
          refine T.pure (.int .i64 0) (by kernel_rfl) (fun _ => by kernel_rfl) ?_
          refine T.nil ?_
          obtain ⟨q3, hX5, hX4⟩ := Option.bind_eq_some_iff.1 hX4
          refine T.cut (fun a w' => ∃ (z7 : List DElem) (z8 : Int), q3 = Sum.inl (z7, z8) ∧ ∃ (A6 : Option Addr) (c6 : Nat) (V13 : View), View.le V10 V13 ∧ SlOk (made w V13) eElem A6 c6 z7 ∧ Fr 113 [(1, .int .i64 p1), (2, .int .i64 p2), (3, .string p3), (4, .int .i64 p4), (15, .map (some m1)), (16, .slice A6 z7.length c6), (20, .int .i64 z8), (55, .int .i64 x4)] a ∧ Hp w V13 [mapo m1 z1] w') ?_ ?_
          ·
           refine T.seq ?_
           refine T.region ?_
           refine T.pure (.int .i64 x4) (by kernel_rfl) (fun _ => by kernel_rfl) ?_
           refine T.pure (.int .i64 (IntKind.i64.wrap (x4 * 16))) (by kernel_rfl) (fun _ => by kernel_rfl) ?_
           refine T.pure (.int .i64 (IntKind.i64.wrap (x4 * 16))) (by kernel_rfl) (fun _ => by kernel_rfl) ?_
           refine T.nil ?_
           refine T.block ?_
           refine T.seq ?_
           refine T.region ?_
           refine T.pure (.int .i64 (IntKind.i64.wrap (x4 * 16))) (by kernel_rfl) (fun _ => by kernel_rfl) ?_
           refine T.pure (.string p3) (by kernel_rfl) (fun _ => by kernel_rfl) ?_
           refine T.pure (.int .i64 (p3.size : Int)) (by kernel_rfl) (fun _ => by kernel_rfl) ?_
           refine T.pure (.bool (decide ((IntKind.i64.wrap (x4 * 16)) < (p3.size : Int)))) (by kernel_rfl) (fun _ => by kernel_rfl) ?_
           refine T.pure (.bool (decide ((IntKind.i64.wrap (x4 * 16)) < (p3.size : Int)))) (by kernel_rfl) (fun _ => by kernel_rfl) ?_
           refine T.nil ?_
           refine T.cond (decide ((IntKind.i64.wrap (x4 * 16)) < (p3.size : Int))) (by kernel_rfl) (by kernel_rfl) (fun hc7 => ?_) (fun hc7 => ?_)
           ·
            rw [hc7, cond_true] at hX5
            refine T.seq ?_
            refine T.region ?_
            refine T.pure (.string p3) (by kernel_rfl) (fun _ => by kernel_rfl) ?_
            refine T.pure (.int .i64 (IntKind.i64.wrap (x4 * 16))) (by kernel_rfl) (fun _ => by kernel_rfl) ?_
            refine T.pure (.string p3) (by kernel_rfl) (fun _ => by kernel_rfl) ?_
            refine T.pure (.int .i64 (p3.size : Int)) (by kernel_rfl) (fun _ => by kernel_rfl) ?_
            refine T.pure (.int .i64 (IntKind.i64.wrap (x4 * 16))) (by kernel_rfl) (fun _ => by kernel_rfl) ?_
            refine T.pure (.int .i64 (IntKind.i64.wrap ((IntKind.i64.wrap (x4 * 16)) + 16))) (by kernel_rfl) (fun _ => by kernel_rfl) ?_
            refine T.pure (.int .i64 (if (IntKind.i64.wrap ((IntKind.i64.wrap (x4 * 16)) + 16)) < (p3.size : Int) then IntKind.i64.wrap ((IntKind.i64.wrap (x4 * 16)) + 16) else (p3.size : Int))) (by kernel_rfl) (fun _ => by kernel_rfl) ?_
            obtain ⟨s3, hb6, hX5⟩ := Option.bind_eq_some_iff.1 hX5
            refine T.look (.string s3) (by kernel_rfl) (fun w' hh => exec_slice_str rfl rfl rfl rfl (by kernel_rfl) hb6) ?_
            refine T.pure (.string s3) (by kernel_rfl) (fun _ => by kernel_rfl) ?_
            refine T.nil ?_
            refine T.seq ?_
            refine T.cut (fun a w' => Fr 113 [(1, .int .i64 p1), (2, .int .i64 p2), (3, .string p3), (4, .int .i64 p4), (15, .map (some m1)), (16, .slice A3 x3.length c3), (17, .int .i64 x4), (22, .string s3), (55, .int .i64 x4), (84, .bool ((mhas z1 x4) && (seq (mget z1 x4) s3)))] a ∧ Hp w V10 [mapo m1 z1] w') ?_ ?_
            ·
             refine T.region ?_
             refine T.pure (.bool (mhas z1 x4)) (by kernel_rfl) (fun _ => by kernel_rfl) ?_
             refine T.pure (.bool (mhas z1 x4)) (by kernel_rfl) (fun _ => by kernel_rfl) ?_
             cases hg7 : (mhas z1 x4)
             ·
              skip
              refine T.pass (by kernel_rfl) (by kernel_rfl) ?_
              refine T.pass (by kernel_rfl) (by kernel_rfl) ?_
              refine T.pass (by kernel_rfl) (by kernel_rfl) ?_
              refine T.pure (.bool false) (by kernel_rfl) (fun _ => by kernel_rfl) ?_
              refine T.nil ?_
              exact fun a w' hf hh => And.intro (((((((((((Fr.nil hf).pick hf 84 rfl).pick hf 55 rfl).pick hf 22 rfl).pick hf 17 rfl).pick hf 16 rfl).pick hf 15 rfl).pick hf 4 rfl).pick hf 3 rfl).pick hf 2 rfl).pick hf 1 rfl) (hh.sub (.cons_cons _ List.Sublist.slnil))
             ·
              skip
              refine T.pure (.string (mget z1 x4)) (by kernel_rfl) (fun _ => by kernel_rfl) ?_
              refine T.pure (.string s3) (by kernel_rfl) (fun _ => by kernel_rfl) ?_
              refine T.pure (.bool (seq (mget z1 x4) s3)) (by kernel_rfl) (fun _ => by kernel_rfl) ?_
              refine T.pure (.bool (seq (mget z1 x4) s3)) (by kernel_rfl) (fun _ => by kernel_rfl) ?_
              refine T.nil ?_
              exact fun a w' hf hh => And.intro (((((((((((Fr.nil hf).pick hf 84 rfl).pick hf 55 rfl).pick hf 22 rfl).pick hf 17 rfl).pick hf 16 rfl).pick hf 15 rfl).pick hf 4 rfl).pick hf 3 rfl).pick hf 2 rfl).pick hf 1 rfl) (hh.sub (.cons_cons _ List.Sublist.slnil))
            ·
             rintro a w' ⟨hf, hh⟩
             refine (?_ : T 113 w V10 [mapo m1 z1] [(1, .int .i64 p1), (2, .int .i64 p2), (3, .string p3), (4, .int .i64 p4), (15, .map (some m1)), (16, .slice A3 x3.length c3), (17, .int .i64 x4), (22, .string s3), (55, .int .i64 x4), (84, .bool ((mhas z1 x4) && (seq (mget z1 x4) s3)))] _) a w' hf hh
             clear hf hh
             refine T.cond ((mhas z1 x4) && (seq (mget z1 x4) s3)) (by kernel_rfl) (by kernel_rfl) (fun hc8 => ?_) (fun hc8 => ?_)
             ·
              rw [hc8, cond_true] at hX5
              refine T.exit ?_
              cases hX5
              try dsimp only at hX4
              cases hX4
              exact fun a w' hf hh => Exists.intro x3 (And.intro rfl (Exists.intro A3 (Exists.intro c3 (Exists.intro V10 (And.intro (View.le_refl _) (And.intro (SlOk.mono hs3 (made_mono (View.le_refl _))) (And.intro ((((((((Fr.nil hf).pick hf 55 rfl).pick hf 16 rfl).pick hf 15 rfl).pick hf 4 rfl).pick hf 3 rfl).pick hf 2 rfl).pick hf 1 rfl) (hh.sub (.cons_cons _ List.Sublist.slnil)))))))))
             ·
              rw [hc8, cond_false] at hX5
              refine T.skip_code ?_
              refine T.region ?_
              refine T.pure (.slice A3 x3.length c3) (by kernel_rfl) (fun _ => by kernel_rfl) ?_
              refine T.pure (.int .i64 p1) (by kernel_rfl) (fun _ => by kernel_rfl) ?_
              refine T.pure (.int .i64 p2) (by kernel_rfl) (fun _ => by kernel_rfl) ?_
              refine T.pure (.int .i64 x4) (by kernel_rfl) (fun _ => by kernel_rfl) ?_
              obtain ⟨r5, hb7, hX5⟩ := Option.bind_eq_some_iff.1 hX5
              refine T.step (W1.call (vAg eKey) r5 12 #[.int .i64 p1, .int .i64 p2, .int .i64 x4] (by kernel_rfl) (fun _ => by kernel_rfl) (fun w' hh => file_block_l p1 p2 x4 r5 hb7 w' ) ?_)
              intro u V14 hV14 hu
              obtain rfl := sureKey _ _ _ hu
              refine T.pure (.string s3) (by kernel_rfl) (fun _ => by kernel_rfl) ?_
              refine T.pure (.int .i64 p4) (by kernel_rfl) (fun _ => by kernel_rfl) ?_
              obtain ⟨r6, hb8, hX5⟩ := Option.bind_eq_some_iff.1 hX5
              refine T.step (W1.call (vT2 (vSc (eList eElem)) (vSc eInt)) r6 11 #[.slice A3 x3.length c3, .agg #[.int .i64 r5.pfs, .int .i64 r5.obj, .int .i64 r5.off], .string s3, .int .i64 p4] (by kernel_rfl) (fun _ => by kernel_rfl) (fun w' hh => run_Put_l F x3 r5 s3 p4 r6 hb8 w' A3 c3 (SlOk.mono (SlOk.mono hs3 (View.le_trans (made_le _ _) hV14)) hh.view)) ?_)
              intro u V15 hV15 hu
              obtain ⟨u1, u2, rfl, hu1, hu2⟩ := vT2_elim hu
              obtain ⟨A7, c7, rfl, hs7⟩ := vlist_elim hu1
              obtain rfl := sureInt _ _ _ hu2
              refine T.pure (.tuple #[.slice A7 r6.1.length c7, .int .i64 r6.2]) (by kernel_rfl) (fun _ => by kernel_rfl) ?_
              refine T.pure (.slice A7 r6.1.length c7) (by kernel_rfl) (fun _ => by kernel_rfl) ?_
              refine T.pure (.int .i64 r6.2) (by kernel_rfl) (fun _ => by kernel_rfl) ?_
              refine T.pure (.slice A7 r6.1.length c7) (by kernel_rfl) (fun _ => by kernel_rfl) ?_
              refine T.pure (.int .i64 r6.2) (by kernel_rfl) (fun _ => by kernel_rfl) ?_
              refine T.nil ?_
              cases hX5
              exact fun a w' hf hh => Exists.intro r6.1 (Exists.intro r6.2 (And.intro rfl (Exists.intro A7 (Exists.intro c7 (Exists.intro V15 (And.intro (View.le_trans hV14 hV15) (And.intro (SlOk.mono hs7 (made_mono (View.le_refl _))) (And.intro (((((((((Fr.nil hf).pick hf 55 rfl).pick hf 20 rfl).pick hf 16 rfl).pick hf 15 rfl).pick hf 4 rfl).pick hf 3 rfl).pick hf 2 rfl).pick hf 1 rfl) (hh.sub (.cons_cons _ List.Sublist.slnil))))))))))
           ·
            rw [hc7, cond_false] at hX5
            refine T.seq ?_
            refine T.region ?_
            refine T.pure (.bool (mhas z1 x4)) (by kernel_rfl) (fun _ => by kernel_rfl) ?_
            refine T.pure (.bool (mhas z1 x4)) (by kernel_rfl) (fun _ => by kernel_rfl) ?_
            refine T.nil ?_
            refine T.cond (mhas z1 x4) (by kernel_rfl) (by kernel_rfl) (fun hc9 => ?_) (fun hc9 => ?_)
            ·
             rw [hc9, cond_true] at hX5
             refine T.region ?_
             refine T.pure (.slice A3 x3.length c3) (by kernel_rfl) (fun _ => by kernel_rfl) ?_
             refine T.pure (.int .i64 p1) (by kernel_rfl) (fun _ => by kernel_rfl) ?_
             refine T.pure (.int .i64 p2) (by kernel_rfl) (fun _ => by kernel_rfl) ?_
             refine T.pure (.int .i64 x4) (by kernel_rfl) (fun _ => by kernel_rfl) ?_
             obtain ⟨r7, hb9, hX5⟩ := Option.bind_eq_some_iff.1 hX5
             refine T.step (W1.call (vAg eKey) r7 12 #[.int .i64 p1, .int .i64 p2, .int .i64 x4] (by kernel_rfl) (fun _ => by kernel_rfl) (fun w' hh => file_block_l p1 p2 x4 r7 hb9 w' ) ?_)
             intro u V16 hV16 hu
             obtain rfl := sureKey _ _ _ hu
             refine T.pure (.int .i64 p4) (by kernel_rfl) (fun _ => by kernel_rfl) ?_
             obtain ⟨r8, hb10, hX5⟩ := Option.bind_eq_some_iff.1 hX5
             refine T.step (W1.call (vT2 (vSc (eList eElem)) (vSc eInt)) r8 13 #[.slice A3 x3.length c3, .agg #[.int .i64 r7.pfs, .int .i64 r7.obj, .int .i64 r7.off], .int .i64 p4] (by kernel_rfl) (fun _ => by kernel_rfl) (fun w' hh => run_Cut_l F x3 r7 p4 r8 hb10 w' A3 c3 (SlOk.mono (SlOk.mono hs3 (View.le_trans (made_le _ _) hV16)) hh.view)) ?_)
             intro u V17 hV17 hu
             obtain ⟨u3, u4, rfl, hu3, hu4⟩ := vT2_elim hu
             obtain ⟨A8, c8, rfl, hs8⟩ := vlist_elim hu3
             obtain rfl := sureInt _ _ _ hu4
             refine T.pure (.tuple #[.slice A8 r8.1.length c8, .int .i64 r8.2]) (by kernel_rfl) (fun _ => by kernel_rfl) ?_
             refine T.pure (.slice A8 r8.1.length c8) (by kernel_rfl) (fun _ => by kernel_rfl) ?_
             refine T.pure (.int .i64 r8.2) (by kernel_rfl) (fun _ => by kernel_rfl) ?_
             refine T.pure (.slice A8 r8.1.length c8) (by kernel_rfl) (fun _ => by kernel_rfl) ?_
             refine T.pure (.int .i64 r8.2) (by kernel_rfl) (fun _ => by kernel_rfl) ?_
             refine T.nil ?_
             cases hX5
             exact fun a w' hf hh => Exists.intro r8.1 (Exists.intro r8.2 (And.intro rfl (Exists.intro A8 (Exists.intro c8 (Exists.intro V17 (And.intro (View.le_trans hV16 hV17) (And.intro (SlOk.mono hs8 (made_mono (View.le_refl _))) (And.intro (((((((((Fr.nil hf).pick hf 55 rfl).pick hf 20 rfl).pick hf 16 rfl).pick hf 15 rfl).pick hf 4 rfl).pick hf 3 rfl).pick hf 2 rfl).pick hf 1 rfl) (hh.sub (.cons_cons _ List.Sublist.slnil))))))))))
            ·
             rw [hc9, cond_false] at hX5
             refine T.skip_code ?_
             cases hX5
             exact fun a w' hf hh => Exists.intro x3 (Exists.intro 0 (And.intro rfl (Exists.intro A3 (Exists.intro c3 (Exists.intro V10 (And.intro (View.le_refl _) (And.intro (SlOk.mono hs3 (made_mono (View.le_refl _))) (And.intro (((((((((Fr.nil hf).pick hf 55 rfl).pick hf 20 rfl).pick hf 16 rfl).pick hf 15 rfl).pick hf 4 rfl).pick hf 3 rfl).pick hf 2 rfl).pick hf 1 rfl) (hh.sub (.cons_cons _ List.Sublist.slnil))))))))))
          ·
           rintro a w' ⟨z7, z8, rfl, A6, c6, V13, hV13, hs6, hf, hh⟩
           try dsimp only at hX4
           refine (?_ : T 113 w V13 [mapo m1 z1] [(1, .int .i64 p1), (2, .int .i64 p2), (3, .string p3), (4, .int .i64 p4), (15, .map (some m1)), (16, .slice A6 z7.length c6), (20, .int .i64 z8), (55, .int .i64 x4)] _) a w' hf hh
           clear hf hh
           refine T.seq ?_
           refine T.region ?_
           refine T.pure (.int .i64 z8) (by kernel_rfl) (fun _ => by kernel_rfl) ?_
           refine T.pure (.bool (z8 != 0)) (by kernel_rfl) (fun _ => by kernel_rfl) ?_
           refine T.nil ?_
           refine T.cond (z8 != 0) (by kernel_rfl) (by kernel_rfl) (fun hc10 => ?_) (fun hc10 => ?_)
           ·
            rw [hc10, cond_true] at hX4
            refine T.seq ?_
            refine T.region ?_
            refine T.pure (.int .i64 z8) (by kernel_rfl) (fun _ => by kernel_rfl) ?_
            refine T.pure (.slice none 0 0) (by kernel_rfl) (fun _ => by kernel_rfl) ?_
            refine T.pure (.int .i64 z8) (by kernel_rfl) (fun _ => by kernel_rfl) ?_
            refine T.nil ?_
            cases hX4
            try dsimp only at hY2
            cases hY2
            cases (hr2 _ rfl)
            try dsimp only at hF
            cases hF
            refine T.ret rfl ?_
            exact T.ret2 rfl (ResIs.tmp rfl) (ResIs.tmp rfl) fun w' hh => ⟨_, rfl, hh.below, (vT2.mk ⟨_, _, rfl, (SlOk.nil _ _)⟩ (show _ from rfl))⟩
           ·
            rw [hc10, cond_false] at hX4
            refine T.skip_code ?_
            cases hX4
            exact fun a w' hf hh => Exists.intro z7 (And.intro rfl (Exists.intro A6 (Exists.intro c6 (Exists.intro V13 (And.intro hV13 (And.intro (SlOk.mono hs6 (made_mono (View.le_refl _))) (And.intro ((((((((Fr.nil hf).pick hf 55 rfl).pick hf 16 rfl).pick hf 15 rfl).pick hf 4 rfl).pick hf 3 rfl).pick hf 2 rfl).pick hf 1 rfl) (hh.sub (.cons_cons _ List.Sublist.slnil)))))))))
         ·
          rintro a w' ⟨z6, rfl, A5, c5, V12, hV12, hs5, hf, hh⟩
          try dsimp only at hY2
          refine (?_ : T 113 w V12 [mapo m1 z1] [(1, .int .i64 p1), (2, .int .i64 p2), (3, .string p3), (4, .int .i64 p4), (15, .map (some m1)), (16, .slice A5 z6.length c5), (55, .int .i64 x4)] _) a w' hf hh
          clear hf hh
          refine T.region ?_
          refine T.pure (.int .i64 (IntKind.i64.wrap (x4 + 1))) (by kernel_rfl) (fun _ => by kernel_rfl) ?_
          refine T.pure (.int .i64 (IntKind.i64.wrap (x4 + 1))) (by kernel_rfl) (fun _ => by kernel_rfl) ?_
          refine T.nil ?_
          cases hY2
          exact fun a w' hf hh => Exists.intro (z6, IntKind.i64.wrap (x4 + 1)) (And.intro rfl (Exists.intro z6 (Exists.intro (IntKind.i64.wrap (x4 + 1)) (And.intro rfl (Exists.intro A5 (Exists.intro c5 (Exists.intro V12 (And.intro (View.le_trans hV10 hV12) (And.intro (SlOk.mono hs5 (made_mono (View.le_refl _))) (And.intro ((((((((Fr.nil hf).pick hf 55 rfl).pick hf 16 rfl).pick hf 15 rfl).pick hf 4 rfl).pick hf 3 rfl).pick hf 2 rfl).pick hf 1 rfl) (hh.sub (.cons_cons _ List.Sublist.slnil))))))))))))
        ·
         rw [hc6, cond_false] at hY2
         refine T.exit ?_
         cases hY2
         cases (hr2 _ rfl)
         exact fun a w' hf hh => Exists.intro x3 (And.intro rfl (Exists.intro A3 (Exists.intro c3 (Exists.intro V10 (And.intro hV10 (And.intro (SlOk.mono hs3 (made_mono (View.le_refl _))) (And.intro ((Fr.nil hf).pick hf 16 rfl) (hh.sub (.cons _ List.Sublist.slnil)))))))))
      ·
       rintro a w' ⟨z5, rfl, A4, c4, V11, hV11, hs4, hf, hh⟩
       try dsimp only at hF
       refine (?_ : T 113 w V11 [] [(16, .slice A4 z5.length c4)] _) a w' hf hh
       clear hf hh
       refine T.seq ?_
       refine T.region ?_
       refine T.pure (.slice A4 z5.length c4) (by kernel_rfl) (fun _ => by kernel_rfl) ?_
       refine T.pure (.slice A4 z5.length c4) (by kernel_rfl) (fun _ => by kernel_rfl) ?_
       refine T.pure (.int .i64 0) (by kernel_rfl) (fun _ => by kernel_rfl) ?_
       refine T.nil ?_
       cases hF
       refine T.ret rfl ?_
       exact T.ret2 rfl (ResIs.tmp rfl) (ResIs.tmp rfl) fun w' hh => ⟨_, rfl, hh.below, (vT2.mk ⟨_, _, rfl, (SlOk.mono hs4 (View.le_trans (made_mono (View.le_refl _)) (made_fresh hh)))⟩ (show _ from rfl))⟩

end Go.Proofs.Ytaodaihoglcinac
