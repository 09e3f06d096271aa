/- The Go functions of group WFileBounds compute the pure functions of that group: written by walkgen.py. Condition of each: the pure function yields a result. -/
import Derived.Test.YtaodaihoglcinacFileL
import Derived.Test.YtaodaihoglcinacRepL
import Derived.Test.YtaodaihoglcinacWFileBoundsF
import Derived.Test.YtaodaihoglcinacEqL
namespace Go.Proofs.Ytaodaihoglcinac
set_option linter.unusedVariables false

set_option maxRecDepth 100000 in
set_option maxHeartbeats 4000000 in
theorem annalkeep_FileBounds_l (F : Nat) (p0 : ByteArray) (p1 : Int) (p2 : Int) (r : Bool) (hF : annalkeep_FileBounds F p0 p1 p2 = some r) (w : World)  :
    Calls Try.prog 3 #[.string p0, .int .i64 p1, .int .i64 p2] w (Post (vSc eBool) r w) := by
 unfold annalkeep_FileBounds at hF
 refine T.start (l := [.string p0, .int .i64 p1, .int .i64 p2]) Try.func3 rfl rfl rfl ?_
 refine T.seq ?_
 refine T.region ?_
 refine T.pure (.bool false) (by kernel_rfl) (fun _ => by kernel_rfl) ?_
 refine T.nil ?_
 refine T.seq ?_
 refine T.seq ?_
 refine T.region ?_
 obtain ⟨r1, hb1, hF⟩ := Option.bind_eq_some_iff.1 hF
 refine T.step (W1.call (vSc eStr) r1 5 #[.string (ByteArray.mk #[120]), .int .i64 321] (by kernel_rfl) (fun _ => by kernel_rfl) (fun w' hh => strings_Repeat_l (ByteArray.mk #[120]) 321 r1 hb1 w' ) ?_)
 intro u V1 hV1 hu
 obtain rfl := sureStr _ _ _ hu
 obtain ⟨r2, hb2, hF⟩ := Option.bind_eq_some_iff.1 hF
 refine T.step (W1.call (vT2 (vSc (eList eElem)) (vSc eInt)) r2 4 #[.slice none 0 0, .int .i64 0, .int .i64 1, .string r1, .int .i64 1] (by kernel_rfl) (fun _ => by kernel_rfl) (fun w' hh => file_Set_l F ([] : List DElem) 0 1 r1 1 r2 hb2 w' none 0 (SlOk.nil _ _)) ?_)
 intro u V2 hV2 hu
 obtain ⟨u1, u2, rfl, hu1, hu2⟩ := vT2_elim hu
 obtain ⟨A1, c1, rfl, hs1⟩ := vlist_elim hu1
 obtain rfl := sureInt _ _ _ hu2
 refine T.pure (.tuple #[.slice A1 r2.1.length c1, .int .i64 r2.2]) (by kernel_rfl) (fun _ => by kernel_rfl) ?_
 refine T.pure (.slice A1 r2.1.length c1) (by kernel_rfl) (fun _ => by kernel_rfl) ?_
 refine T.pure (.int .i64 r2.2) (by kernel_rfl) (fun _ => by kernel_rfl) ?_
 refine T.pure (.slice A1 r2.1.length c1) (by kernel_rfl) (fun _ => by kernel_rfl) ?_
 refine T.pure (.int .i64 r2.2) (by kernel_rfl) (fun _ => by kernel_rfl) ?_
 refine T.nil ?_
 refine T.seq ?_
 refine T.region ?_
 refine T.pure (.int .i64 r2.2) (by kernel_rfl) (fun _ => by kernel_rfl) ?_
 refine T.pure (.bool (r2.2 != 2)) (by kernel_rfl) (fun _ => by kernel_rfl) ?_
 refine T.nil ?_
 refine T.cond (r2.2 != 2) (by kernel_rfl) (by kernel_rfl) (fun hc1 => ?_) (fun hc1 => ?_)
 ·
  rw [hc1, cond_true] at hF
  refine T.seq ?_
  refine T.region ?_
  refine T.pure (.bool false) (by kernel_rfl) (fun _ => by kernel_rfl) ?_
  refine T.nil ?_
  cases hF
  refine T.ret rfl ?_
  exact T.ret1 rfl (ResIs.tmp rfl) fun w' hh => ⟨_, rfl, hh.below, (show _ from rfl)⟩
 ·
  rw [hc1, cond_false] at hF
  refine T.skip_code ?_
  refine T.seq ?_
  refine T.seq ?_
  refine T.region ?_
  obtain ⟨r3, hb3, hF⟩ := Option.bind_eq_some_iff.1 hF
  refine T.step (W1.call (vSc eStr) r3 5 #[.string (ByteArray.mk #[120]), .int .i64 320] (by kernel_rfl) (fun _ => by kernel_rfl) (fun w' hh => strings_Repeat_l (ByteArray.mk #[120]) 320 r3 hb3 w' ) ?_)
  intro u V3 hV3 hu
  obtain rfl := sureStr _ _ _ hu
  obtain ⟨r4, hb4, hF⟩ := Option.bind_eq_some_iff.1 hF
  refine T.step (W1.call (vT2 (vSc (eList eElem)) (vSc eInt)) r4 4 #[.slice none 0 0, .int .i64 0, .int .i64 1, .string r3, .int .i64 1] (by kernel_rfl) (fun _ => by kernel_rfl) (fun w' hh => file_Set_l F ([] : List DElem) 0 1 r3 1 r4 hb4 w' none 0 (SlOk.nil _ _)) ?_)
  intro u V4 hV4 hu
  obtain ⟨u3, u4, rfl, hu3, hu4⟩ := vT2_elim hu
  obtain ⟨A2, c2, rfl, hs2⟩ := vlist_elim hu3
  obtain rfl := sureInt _ _ _ hu4
  refine T.pure (.tuple #[.slice A2 r4.1.length c2, .int .i64 r4.2]) (by kernel_rfl) (fun _ => by kernel_rfl) ?_
  refine T.pure (.slice A2 r4.1.length c2) (by kernel_rfl) (fun _ => by kernel_rfl) ?_
  refine T.pure (.int .i64 r4.2) (by kernel_rfl) (fun _ => by kernel_rfl) ?_
  refine T.pure (.slice A2 r4.1.length c2) (by kernel_rfl) (fun _ => by kernel_rfl) ?_
  refine T.pure (.int .i64 r4.2) (by kernel_rfl) (fun _ => by kernel_rfl) ?_
  refine T.nil ?_
  refine T.cut (fun a w' => Fr 99 [(0, .string p0), (1, .int .i64 p1), (2, .int .i64 p2), (33, .bool ((r4.2 != 0) || ((r4.1.length : Int) != 20)))] a ∧ Hp w V4 [] w') ?_ ?_
  ·
   refine T.region ?_
   refine T.pure (.int .i64 r4.2) (by kernel_rfl) (fun _ => by kernel_rfl) ?_
   refine T.pure (.bool (r4.2 != 0)) (by kernel_rfl) (fun _ => by kernel_rfl) ?_
   refine T.pure (.bool (r4.2 != 0)) (by kernel_rfl) (fun _ => by kernel_rfl) ?_
   cases hg1 : (r4.2 != 0)
   ·
    skip
    refine T.pure (.slice A2 r4.1.length c2) (by kernel_rfl) (fun _ => by kernel_rfl) ?_
    refine T.pure (.int .i64 (r4.1.length : Int)) (by kernel_rfl) (fun _ => by kernel_rfl) ?_
    refine T.pure (.bool ((r4.1.length : Int) != 20)) (by kernel_rfl) (fun _ => by kernel_rfl) ?_
    refine T.pure (.bool ((r4.1.length : Int) != 20)) (by kernel_rfl) (fun _ => by kernel_rfl) ?_
    refine T.nil ?_
    exact fun a w' hf hh => And.intro (((((Fr.nil hf).pick hf 33 rfl).pick hf 2 rfl).pick hf 1 rfl).pick hf 0 rfl) (hh.sub List.Sublist.slnil)
   ·
    skip
    refine T.pass (by kernel_rfl) (by kernel_rfl) ?_
    refine T.pass (by kernel_rfl) (by kernel_rfl) ?_
    refine T.pass (by kernel_rfl) (by kernel_rfl) ?_
    refine T.pure (.bool true) (by kernel_rfl) (fun _ => by kernel_rfl) ?_
    refine T.nil ?_
    exact fun a w' hf hh => And.intro (((((Fr.nil hf).pick hf 33 rfl).pick hf 2 rfl).pick hf 1 rfl).pick hf 0 rfl) (hh.sub List.Sublist.slnil)
  ·
   rintro a w' ⟨hf, hh⟩
   refine (?_ : T 99 w V4 [] [(0, .string p0), (1, .int .i64 p1), (2, .int .i64 p2), (33, .bool ((r4.2 != 0) || ((r4.1.length : Int) != 20)))] _) a w' hf hh
   clear hf hh
   refine T.cond ((r4.2 != 0) || ((r4.1.length : Int) != 20)) (by kernel_rfl) (by kernel_rfl) (fun hc2 => ?_) (fun hc2 => ?_)
   ·
    rw [hc2, cond_true] at hF
    refine T.seq ?_
    refine T.region ?_
    refine T.pure (.bool false) (by kernel_rfl) (fun _ => by kernel_rfl) ?_
    refine T.nil ?_
    cases hF
    refine T.ret rfl ?_
    exact T.ret1 rfl (ResIs.tmp rfl) fun w' hh => ⟨_, rfl, hh.below, (show _ from rfl)⟩
   ·
    rw [hc2, cond_false] at hF
    refine T.skip_code ?_
    refine T.seq ?_
    refine T.region ?_
    refine T.pure (.int .i64 p1) (by kernel_rfl) (fun _ => by kernel_rfl) ?_
    obtain ⟨r5, hb5, hF⟩ := Option.bind_eq_some_iff.1 hF
    refine T.step (W1.call (vSc eInt) r5 6 #[.int .i64 p1, .int .i64 1048577] (by kernel_rfl) (fun _ => by kernel_rfl) (fun w' hh => annalkeep_Within_l p1 1048577 r5 hb5 w' ) ?_)
    intro u V5 hV5 hu
    obtain rfl := sureInt _ _ _ hu
    refine T.pure (.int .i64 p2) (by kernel_rfl) (fun _ => by kernel_rfl) ?_
    obtain ⟨r6, hb6, hF⟩ := Option.bind_eq_some_iff.1 hF
    refine T.step (W1.call (vSc eInt) r6 6 #[.int .i64 p2, .int .i64 1000] (by kernel_rfl) (fun _ => by kernel_rfl) (fun w' hh => annalkeep_Within_l p2 1000 r6 hb6 w' ) ?_)
    intro u V6 hV6 hu
    obtain rfl := sureInt _ _ _ hu
    refine T.pure (.int .i64 (IntKind.i64.wrap (1 + r6))) (by kernel_rfl) (fun _ => by kernel_rfl) ?_
    refine T.pure (.int .i64 r5) (by kernel_rfl) (fun _ => by kernel_rfl) ?_
    refine T.pure (.int .i64 (IntKind.i64.wrap (1 + r6))) (by kernel_rfl) (fun _ => by kernel_rfl) ?_
    refine T.nil ?_
    refine T.seq ?_
    refine T.region ?_
    refine T.pure (.int .i64 r5) (by kernel_rfl) (fun _ => by kernel_rfl) ?_
    refine T.pure (.string p0) (by kernel_rfl) (fun _ => by kernel_rfl) ?_
    refine T.pure (.int .i64 (IntKind.i64.wrap (1 + r6))) (by kernel_rfl) (fun _ => by kernel_rfl) ?_
    obtain ⟨r7, hb7, hF⟩ := Option.bind_eq_some_iff.1 hF
    refine T.step (W1.call (vT2 (vSc (eList eElem)) (vSc eInt)) r7 4 #[.slice none 0 0, .int .i64 3, .int .i64 r5, .string p0, .int .i64 (IntKind.i64.wrap (1 + r6))] (by kernel_rfl) (fun _ => by kernel_rfl) (fun w' hh => file_Set_l F ([] : List DElem) 3 r5 p0 (IntKind.i64.wrap (1 + r6)) r7 hb7 w' none 0 (SlOk.nil _ _)) ?_)
    intro u V7 hV7 hu
    obtain ⟨u5, u6, rfl, hu5, hu6⟩ := vT2_elim hu
    obtain ⟨A3, c3, rfl, hs3⟩ := vlist_elim hu5
    obtain rfl := sureInt _ _ _ hu6
    refine T.pure (.tuple #[.slice A3 r7.1.length c3, .int .i64 r7.2]) (by kernel_rfl) (fun _ => by kernel_rfl) ?_
    refine T.pure (.slice A3 r7.1.length c3) (by kernel_rfl) (fun _ => by kernel_rfl) ?_
    refine T.pure (.int .i64 r7.2) (by kernel_rfl) (fun _ => by kernel_rfl) ?_
    refine T.pure (.slice A3 r7.1.length c3) (by kernel_rfl) (fun _ => by kernel_rfl) ?_
    refine T.pure (.int .i64 r7.2) (by kernel_rfl) (fun _ => by kernel_rfl) ?_
    refine T.nil ?_
    refine T.seq ?_
    refine T.seq ?_
    refine T.region ?_
    refine T.pure (.string p0) (by kernel_rfl) (fun _ => by kernel_rfl) ?_
    refine T.pure (.int .i64 (p0.size : Int)) (by kernel_rfl) (fun _ => by kernel_rfl) ?_
    refine T.pure (.bool (decide ((320 : Int) < (p0.size : Int)))) (by kernel_rfl) (fun _ => by kernel_rfl) ?_
    refine T.nil ?_
    refine T.cond (decide ((320 : Int) < (p0.size : Int))) (by kernel_rfl) (by kernel_rfl) (fun hc3 => ?_) (fun hc3 => ?_)
    ·
     rw [hc3, cond_true] at hF
     refine T.cut (fun a w' => Fr 99 [(6, .bool ((r7.2 == 2) && ((r7.1.length : Int) == 0)))] a ∧ Hp w V7 [] w') ?_ ?_
     ·
      refine T.region ?_
      refine T.pure (.int .i64 r7.2) (by kernel_rfl) (fun _ => by kernel_rfl) ?_
      refine T.pure (.bool (r7.2 == 2)) (by kernel_rfl) (fun _ => by kernel_rfl) ?_
      refine T.pure (.bool (r7.2 == 2)) (by kernel_rfl) (fun _ => by kernel_rfl) ?_
      cases hg2 : (r7.2 == 2)
      ·
       skip
       refine T.pass (by kernel_rfl) (by kernel_rfl) ?_
       refine T.pass (by kernel_rfl) (by kernel_rfl) ?_
       refine T.pass (by kernel_rfl) (by kernel_rfl) ?_
       refine T.pure (.bool false) (by kernel_rfl) (fun _ => by kernel_rfl) ?_
       refine T.pure (.bool false) (by kernel_rfl) (fun _ => by kernel_rfl) ?_
       refine T.nil ?_
       exact fun a w' hf hh => And.intro ((Fr.nil hf).pick hf 6 rfl) (hh.sub List.Sublist.slnil)
      ·
       skip
       refine T.pure (.slice A3 r7.1.length c3) (by kernel_rfl) (fun _ => by kernel_rfl) ?_
       refine T.pure (.int .i64 (r7.1.length : Int)) (by kernel_rfl) (fun _ => by kernel_rfl) ?_
       refine T.pure (.bool ((r7.1.length : Int) == 0)) (by kernel_rfl) (fun _ => by kernel_rfl) ?_
       refine T.pure (.bool ((r7.1.length : Int) == 0)) (by kernel_rfl) (fun _ => by kernel_rfl) ?_
       refine T.pure (.bool ((r7.1.length : Int) == 0)) (by kernel_rfl) (fun _ => by kernel_rfl) ?_
       refine T.nil ?_
       exact fun a w' hf hh => And.intro ((Fr.nil hf).pick hf 6 rfl) (hh.sub List.Sublist.slnil)
     ·
      rintro a w' ⟨hf, hh⟩
      refine (?_ : T 99 w V7 [] [(6, .bool ((r7.2 == 2) && ((r7.1.length : Int) == 0)))] _) a w' hf hh
      clear hf hh
      cases hF
      refine T.ret rfl ?_
      exact T.ret1 rfl (ResIs.tmp rfl) fun w' hh => ⟨_, rfl, hh.below, (show _ from rfl)⟩
    ·
     rw [hc3, cond_false] at hF
     refine T.skip_code ?_
     refine T.seq ?_
     refine T.cut (fun a w' => Fr 99 [(1, .int .i64 r5), (2, .int .i64 (IntKind.i64.wrap (1 + r6))), (11, .slice A3 r7.1.length c3), (66, .bool ((r7.2 != 0) || ((r7.1.length : Int) != (IntKind.i64.wrap ((IntKind.i64.wrap ((p0.size : Int) + 15) : Int).tdiv 16)))))] a ∧ Hp w V7 [] w') ?_ ?_
     ·
      refine T.region ?_
      refine T.pure (.int .i64 r7.2) (by kernel_rfl) (fun _ => by kernel_rfl) ?_
      refine T.pure (.bool (r7.2 != 0)) (by kernel_rfl) (fun _ => by kernel_rfl) ?_
      refine T.pure (.bool (r7.2 != 0)) (by kernel_rfl) (fun _ => by kernel_rfl) ?_
      cases hg3 : (r7.2 != 0)
      ·
       skip
       refine T.pure (.slice A3 r7.1.length c3) (by kernel_rfl) (fun _ => by kernel_rfl) ?_
       refine T.pure (.int .i64 (r7.1.length : Int)) (by kernel_rfl) (fun _ => by kernel_rfl) ?_
       refine T.pure (.string p0) (by kernel_rfl) (fun _ => by kernel_rfl) ?_
       refine T.pure (.int .i64 (p0.size : Int)) (by kernel_rfl) (fun _ => by kernel_rfl) ?_
       refine T.pure (.int .i64 (IntKind.i64.wrap ((p0.size : Int) + 15))) (by kernel_rfl) (fun _ => by kernel_rfl) ?_
       refine T.pure (.int .i64 (IntKind.i64.wrap ((IntKind.i64.wrap ((p0.size : Int) + 15) : Int).tdiv 16))) (by kernel_rfl) (fun _ => by kernel_rfl) ?_
       refine T.pure (.bool ((r7.1.length : Int) != (IntKind.i64.wrap ((IntKind.i64.wrap ((p0.size : Int) + 15) : Int).tdiv 16)))) (by kernel_rfl) (fun _ => by kernel_rfl) ?_
       refine T.pure (.bool ((r7.1.length : Int) != (IntKind.i64.wrap ((IntKind.i64.wrap ((p0.size : Int) + 15) : Int).tdiv 16)))) (by kernel_rfl) (fun _ => by kernel_rfl) ?_
       refine T.nil ?_
       exact fun a w' hf hh => And.intro (((((Fr.nil hf).pick hf 66 rfl).pick hf 11 rfl).pick hf 2 rfl).pick hf 1 rfl) (hh.sub List.Sublist.slnil)
      ·
       skip
       refine T.pass (by kernel_rfl) (by kernel_rfl) ?_
       refine T.pass (by kernel_rfl) (by kernel_rfl) ?_
       refine T.pass (by kernel_rfl) (by kernel_rfl) ?_
       refine T.pass (by kernel_rfl) (by kernel_rfl) ?_
       refine T.pass (by kernel_rfl) (by kernel_rfl) ?_
       refine T.pass (by kernel_rfl) (by kernel_rfl) ?_
       refine T.pass (by kernel_rfl) (by kernel_rfl) ?_
       refine T.pure (.bool true) (by kernel_rfl) (fun _ => by kernel_rfl) ?_
       refine T.nil ?_
       exact fun a w' hf hh => And.intro (((((Fr.nil hf).pick hf 66 rfl).pick hf 11 rfl).pick hf 2 rfl).pick hf 1 rfl) (hh.sub List.Sublist.slnil)
     ·
      rintro a w' ⟨hf, hh⟩
      refine (?_ : T 99 w V7 [] [(1, .int .i64 r5), (2, .int .i64 (IntKind.i64.wrap (1 + r6))), (11, .slice A3 r7.1.length c3), (66, .bool ((r7.2 != 0) || ((r7.1.length : Int) != (IntKind.i64.wrap ((IntKind.i64.wrap ((p0.size : Int) + 15) : Int).tdiv 16)))))] _) a w' hf hh
      clear hf hh
      refine T.cond ((r7.2 != 0) || ((r7.1.length : Int) != (IntKind.i64.wrap ((IntKind.i64.wrap ((p0.size : Int) + 15) : Int).tdiv 16)))) (by kernel_rfl) (by kernel_rfl) (fun hc4 => ?_) (fun hc4 => ?_)
      ·
       rw [hc4, cond_true] at hF
       refine T.seq ?_
       refine T.region ?_
       refine T.pure (.bool false) (by kernel_rfl) (fun _ => by kernel_rfl) ?_
       refine T.nil ?_
       cases hF
       refine T.ret rfl ?_
       exact T.ret1 rfl (ResIs.tmp rfl) fun w' hh => ⟨_, rfl, hh.below, (show _ from rfl)⟩
      ·
       rw [hc4, cond_false] at hF
       refine T.skip_code ?_
       refine T.seq ?_
       refine T.seq ?_
       refine T.region ?_
       refine T.pure (.slice A3 r7.1.length c3) (by kernel_rfl) (fun _ => by kernel_rfl) ?_
       refine T.pure (.int .i64 (r7.1.length : Int)) (by kernel_rfl) (fun _ => by kernel_rfl) ?_
       refine T.pure (.int .i64 0) (by kernel_rfl) (fun _ => by kernel_rfl) ?_
       refine T.nil ?_
       obtain ⟨q1, hz1, hF⟩ := Option.bind_eq_some_iff.1 hF
       refine T.mid (fun a w' => q1 = Sum.inl () ∧ ∃ (V9 : View), View.le V7 V9 ∧ Fr 99 [] a ∧ Hp w V9 [] w') ?_ ?_
       ·
        refine T.block ?_
        refine T.iter (fun x1 a w' => ∃ (V8 : View), View.le V7 V8 ∧ Fr 99 [(1, .int .i64 r5), (2, .int .i64 (IntKind.i64.wrap (1 + r6))), (67, .slice A3 r7.1.length c3), (68, .int .i64 (r7.1.length : Int)), (69, .int .i64 x1)] a ∧ Hp w V8 [] w') hz1 ?_ ?_
        ·
         exact fun a w' hf hh => Exists.intro V7 (And.intro (View.le_refl _) (And.intro ((((((Fr.nil hf).pick hf 69 rfl).pick hf 68 rfl).pick hf 67 rfl).pick hf 2 rfl).pick hf 1 rfl) (hh.sub List.Sublist.slnil)))
        ·
         rintro x1 y1 hY1 hr1 a w' ⟨V8, hV8, hf, hh⟩
         refine (?_ : T 99 w V8 [] [(1, .int .i64 r5), (2, .int .i64 (IntKind.i64.wrap (1 + r6))), (67, .slice A3 r7.1.length c3), (68, .int .i64 (r7.1.length : Int)), (69, .int .i64 x1)] _) a w' hf hh
         clear hf hh
         try dsimp only at hY1
         refine T.seq ?_
         refine T.region ?_
         refine T.pure (.bool (decide (x1 < (r7.1.length : Int)))) (by kernel_rfl) (fun _ => by kernel_rfl) ?_
         refine T.nil ?_
         refine T.seq ?_
         refine T.cond (decide (x1 < (r7.1.length : Int))) (by kernel_rfl) (by kernel_rfl) (fun hc5 => ?_) (fun hc5 => ?_)
         ·
          rw [hc5, cond_true] at hY1
          refine T.skip_code ?_
          refine T.seq ?_
          refine T.block ?_
          refine T.seq ?_
          refine T.region ?_
          refine T.pure (.int .i64 x1) (by kernel_rfl) (fun _ => by kernel_rfl) ?_
          obtain ⟨e1, hb8, hY1⟩ := Option.bind_eq_some_iff.1 hY1
          obtain ⟨hi1, hi2, hi3⟩ := idx_some hb8
          refine T.look (.pointer (some ((sadr A3).add (x1.toNat * 6)))) (by kernel_rfl) (fun w' hh => exec_indexAddr (e := 31) (s := 6) rfl rfl rfl (by kernel_rfl) (by kernel_rfl) hi1 hi2 ((SlOk.mono hs3 (View.le_trans (made_le _ _) hV8)).some_ hi3 (by decide))) ?_
          refine T.look (.agg #[.int .i64 e1.key.pfs, .int .i64 e1.key.obj, .int .i64 e1.key.off, .int .i64 e1.made, .int .i64 e1.gone, .string e1.val]) (by kernel_rfl) (fun w' hh => exec_loadN (cs := [.int .i64 e1.key.pfs, .int .i64 e1.key.obj, .int .i64 e1.key.off, .int .i64 e1.made, .int .i64 e1.gone, .string e1.val]) rfl rfl (by kernel_rfl) (by kernel_rfl) (fun j u hj => (hh.cell_view (SlOk.cellF (E := eElem) (SlOk.mono hs3 (View.le_trans (made_le _ _) hV8)) hi3 j (fun _ _ _ h => h) hj)))) ?_
          refine T.step (W1.new 31 [.int .i64 0, .int .i64 0, .int .i64 0, .int .i64 0, .int .i64 0, .string (ByteArray.mk #[])] (fun b => .pointer (some ⟨b, 0, none⟩)) (by kernel_rfl) (fun _ => by kernel_rfl) (fun b1 => ?_))
          refine T.pure (.int .i64 x1) (by kernel_rfl) (fun _ => by kernel_rfl) ?_
          refine T.step (W1.store 0 [.int .i64 e1.key.pfs, .int .i64 e1.key.obj, .int .i64 e1.key.off, .int .i64 e1.made, .int .i64 e1.gone, .string e1.val] [box b1 31 [.int .i64 e1.key.pfs, .int .i64 e1.key.obj, .int .i64 e1.key.off, .int .i64 e1.made, .int .i64 e1.gone, .string e1.val]] (by rfl) rfl (by kernel_rfl) (fun w' hw => exec_store (vs := [.int .i64 e1.key.pfs, .int .i64 e1.key.obj, .int .i64 e1.key.off, .int .i64 e1.made, .int .i64 e1.gone, .string e1.val]) rfl rfl rfl rfl (by kernel_rfl) (one_of rfl) (by simp) rfl hw) ?_)
          refine T.nil ?_
          obtain ⟨z1, hX1, hY1⟩ := Option.bind_eq_some_iff.1 hY1
          refine T.cut (fun a w' => ∃ (V10 : View), View.le V8 V10 ∧ Fr 99 [(1, .int .i64 r5), (2, .int .i64 (IntKind.i64.wrap (1 + r6))), (67, .slice A3 r7.1.length c3), (68, .int .i64 (r7.1.length : Int)), (69, .int .i64 x1), (97, .bool z1)] a ∧ Hp w V10 [] w') ?_ ?_
          ·
           refine T.region ?_
           refine T.pure (.pointer (some ⟨b1, 0, none⟩)) (by kernel_rfl) (fun _ => by kernel_rfl) ?_
           refine T.look (.agg #[.int .i64 e1.key.pfs, .int .i64 e1.key.obj, .int .i64 e1.key.off]) (by kernel_rfl) (fun w' hh => exec_loadN (cs := [.int .i64 e1.key.pfs, .int .i64 e1.key.obj, .int .i64 e1.key.off]) rfl rfl (by kernel_rfl) (by kernel_rfl) (fun j u hj => (hh.box_at (i := 0) (cs := [.int .i64 e1.key.pfs, .int .i64 e1.key.obj, .int .i64 e1.key.off, .int .i64 e1.made, .int .i64 e1.gone, .string e1.val]) (by rfl) 0 j).trans (seg_at (n := 3) (by rfl) hj))) ?_
           refine T.pure (.int .i64 r5) (by kernel_rfl) (fun _ => by kernel_rfl) ?_
           refine T.pure (.int .i64 x1) (by kernel_rfl) (fun _ => by kernel_rfl) ?_
           refine T.pure (.int .i64 (IntKind.i64.wrap (1 + x1))) (by kernel_rfl) (fun _ => by kernel_rfl) ?_
           refine T.pure (.agg #[.int .i64 3, .int .i64 r5, .int .i64 (IntKind.i64.wrap (1 + x1))]) (by kernel_rfl) (fun _ => by kernel_rfl) ?_
           refine T.look (.bool (!(e1.key == (DKey.mk 3 r5 (IntKind.i64.wrap (1 + x1)))))) (by kernel_rfl) (fun w' hh => exec_neq_DKey e1.key (DKey.mk 3 r5 (IntKind.i64.wrap (1 + x1))) w' rfl rfl rfl) ?_
           refine T.pure (.bool (!(e1.key == (DKey.mk 3 r5 (IntKind.i64.wrap (1 + x1)))))) (by kernel_rfl) (fun _ => by kernel_rfl) ?_
           cases hg4 : (!(e1.key == (DKey.mk 3 r5 (IntKind.i64.wrap (1 + x1)))))
           ·
            skip
            rw [hg4, cond_false] at hX1
            refine T.pure (.pointer (some ⟨b1, 3, none⟩)) (by kernel_rfl) (fun _ => by kernel_rfl) ?_
            refine T.look (.int .i64 e1.made) (by kernel_rfl) (fun w' hh => exec_load1 rfl rfl (by kernel_rfl) (hh.cellBox (i := 0) (by rfl) 3)) ?_
            refine T.pure (.int .i64 (IntKind.i64.wrap (1 + r6))) (by kernel_rfl) (fun _ => by kernel_rfl) ?_
            refine T.pure (.bool (e1.made != (IntKind.i64.wrap (1 + r6)))) (by kernel_rfl) (fun _ => by kernel_rfl) ?_
            refine T.pure (.bool (e1.made != (IntKind.i64.wrap (1 + r6)))) (by kernel_rfl) (fun _ => by kernel_rfl) ?_
            refine T.pure (.bool (e1.made != (IntKind.i64.wrap (1 + r6)))) (by kernel_rfl) (fun _ => by kernel_rfl) ?_
            cases hg5 : (e1.made != (IntKind.i64.wrap (1 + r6)))
            ·
             skip
             rw [hg5, cond_false] at hX1
             refine T.pure (.pointer (some ⟨b1, 4, none⟩)) (by kernel_rfl) (fun _ => by kernel_rfl) ?_
             refine T.look (.int .i64 e1.gone) (by kernel_rfl) (fun w' hh => exec_load1 rfl rfl (by kernel_rfl) (hh.cellBox (i := 0) (by rfl) 4)) ?_
             refine T.pure (.bool (e1.gone != 0)) (by kernel_rfl) (fun _ => by kernel_rfl) ?_
             refine T.pure (.bool (e1.gone != 0)) (by kernel_rfl) (fun _ => by kernel_rfl) ?_
             refine T.pure (.bool (e1.gone != 0)) (by kernel_rfl) (fun _ => by kernel_rfl) ?_
             cases hg6 : (e1.gone != 0)
             ·
              skip
              rw [hg6, cond_false] at hX1
              refine T.pure (.pointer (some ⟨b1, 0, none⟩)) (by kernel_rfl) (fun _ => by kernel_rfl) ?_
              refine T.look (.agg #[.int .i64 e1.key.pfs, .int .i64 e1.key.obj, .int .i64 e1.key.off]) (by kernel_rfl) (fun w' hh => exec_loadN (cs := [.int .i64 e1.key.pfs, .int .i64 e1.key.obj, .int .i64 e1.key.off]) rfl rfl (by kernel_rfl) (by kernel_rfl) (fun j u hj => (hh.box_at (i := 0) (cs := [.int .i64 e1.key.pfs, .int .i64 e1.key.obj, .int .i64 e1.key.off, .int .i64 e1.made, .int .i64 e1.gone, .string e1.val]) (by rfl) 0 j).trans (seg_at (n := 3) (by rfl) hj))) ?_
              obtain ⟨r8, hb9, hX1⟩ := Option.bind_eq_some_iff.1 hX1
              refine T.step (W1.call (vSc eInt) r8 7 #[.agg #[.int .i64 e1.key.pfs, .int .i64 e1.key.obj, .int .i64 e1.key.off]] (by kernel_rfl) (fun _ => by kernel_rfl) (fun w' hh => key_Check_l e1.key r8 hb9 w' ) ?_)
              intro u V11 hV11 hu
              obtain rfl := sureInt _ _ _ hu
              refine T.pure (.bool (r8 != 0)) (by kernel_rfl) (fun _ => by kernel_rfl) ?_
              refine T.pure (.bool (r8 != 0)) (by kernel_rfl) (fun _ => by kernel_rfl) ?_
              refine T.nil ?_
              cases hX1
              exact fun a w' hf hh => Exists.intro V11 (And.intro hV11 (And.intro (((((((Fr.nil hf).pick hf 97 rfl).pick hf 69 rfl).pick hf 68 rfl).pick hf 67 rfl).pick hf 2 rfl).pick hf 1 rfl) (hh.sub (.cons _ List.Sublist.slnil))))
             ·
              skip
              rw [hg6, cond_true] at hX1
              refine T.pass (by kernel_rfl) (by kernel_rfl) ?_
              refine T.pass (by kernel_rfl) (by kernel_rfl) ?_
              refine T.pass (by kernel_rfl) (by kernel_rfl) ?_
              refine T.pass (by kernel_rfl) (by kernel_rfl) ?_
              refine T.pure (.bool true) (by kernel_rfl) (fun _ => by kernel_rfl) ?_
              refine T.nil ?_
              cases hX1
              exact fun a w' hf hh => Exists.intro V8 (And.intro (View.le_refl _) (And.intro (((((((Fr.nil hf).pick hf 97 rfl).pick hf 69 rfl).pick hf 68 rfl).pick hf 67 rfl).pick hf 2 rfl).pick hf 1 rfl) (hh.sub (.cons _ List.Sublist.slnil))))
            ·
             skip
             rw [hg5, cond_true] at hX1
             refine T.pass (by kernel_rfl) (by kernel_rfl) ?_
             refine T.pass (by kernel_rfl) (by kernel_rfl) ?_
             refine T.pass (by kernel_rfl) (by kernel_rfl) ?_
             refine T.pure (.bool true) (by kernel_rfl) (fun _ => by kernel_rfl) ?_
             refine T.pure (.bool true) (by kernel_rfl) (fun _ => by kernel_rfl) ?_
             refine T.pass (by kernel_rfl) (by kernel_rfl) ?_
             refine T.pass (by kernel_rfl) (by kernel_rfl) ?_
             refine T.pass (by kernel_rfl) (by kernel_rfl) ?_
             refine T.pass (by kernel_rfl) (by kernel_rfl) ?_
             refine T.pure (.bool true) (by kernel_rfl) (fun _ => by kernel_rfl) ?_
             refine T.nil ?_
             cases hX1
             exact fun a w' hf hh => Exists.intro V8 (And.intro (View.le_refl _) (And.intro (((((((Fr.nil hf).pick hf 97 rfl).pick hf 69 rfl).pick hf 68 rfl).pick hf 67 rfl).pick hf 2 rfl).pick hf 1 rfl) (hh.sub (.cons _ List.Sublist.slnil))))
           ·
            skip
            rw [hg4, cond_true] at hX1
            refine T.pass (by kernel_rfl) (by kernel_rfl) ?_
            refine T.pass (by kernel_rfl) (by kernel_rfl) ?_
            refine T.pass (by kernel_rfl) (by kernel_rfl) ?_
            refine T.pass (by kernel_rfl) (by kernel_rfl) ?_
            refine T.pure (.bool true) (by kernel_rfl) (fun _ => by kernel_rfl) ?_
            refine T.pure (.bool true) (by kernel_rfl) (fun _ => by kernel_rfl) ?_
            refine T.pass (by kernel_rfl) (by kernel_rfl) ?_
            refine T.pass (by kernel_rfl) (by kernel_rfl) ?_
            refine T.pass (by kernel_rfl) (by kernel_rfl) ?_
            refine T.pure (.bool true) (by kernel_rfl) (fun _ => by kernel_rfl) ?_
            refine T.pure (.bool true) (by kernel_rfl) (fun _ => by kernel_rfl) ?_
            refine T.pass (by kernel_rfl) (by kernel_rfl) ?_
            refine T.pass (by kernel_rfl) (by kernel_rfl) ?_
            refine T.pass (by kernel_rfl) (by kernel_rfl) ?_
            refine T.pass (by kernel_rfl) (by kernel_rfl) ?_
            refine T.pure (.bool true) (by kernel_rfl) (fun _ => by kernel_rfl) ?_
            refine T.nil ?_
            cases hX1
            exact fun a w' hf hh => Exists.intro V8 (And.intro (View.le_refl _) (And.intro (((((((Fr.nil hf).pick hf 97 rfl).pick hf 69 rfl).pick hf 68 rfl).pick hf 67 rfl).pick hf 2 rfl).pick hf 1 rfl) (hh.sub (.cons _ List.Sublist.slnil))))
          ·
           rintro a w' ⟨V10, hV10, hf, hh⟩
           refine (?_ : T 99 w V10 [] [(1, .int .i64 r5), (2, .int .i64 (IntKind.i64.wrap (1 + r6))), (67, .slice A3 r7.1.length c3), (68, .int .i64 (r7.1.length : Int)), (69, .int .i64 x1), (97, .bool z1)] _) a w' hf hh
           clear hf hh
           refine T.cond z1 (by kernel_rfl) (by kernel_rfl) (fun hc6 => ?_) (fun hc6 => ?_)
           ·
            rw [hc6, cond_true] at hY1
            refine T.seq ?_
            refine T.region ?_
            refine T.pure (.bool false) (by kernel_rfl) (fun _ => by kernel_rfl) ?_
            refine T.nil ?_
            cases hY1
            cases (hr1 _ rfl)
            try dsimp only at hF
            cases hF
            refine T.ret rfl ?_
            exact T.ret1 rfl (ResIs.tmp rfl) fun w' hh => ⟨_, rfl, hh.below, (show _ from rfl)⟩
           ·
            rw [hc6, cond_false] at hY1
            refine T.skip_code ?_
            refine T.region ?_
            refine T.pure (.int .i64 (IntKind.i64.wrap (x1 + 1))) (by kernel_rfl) (fun _ => by kernel_rfl) ?_
            refine T.pure (.int .i64 (IntKind.i64.wrap (x1 + 1))) (by kernel_rfl) (fun _ => by kernel_rfl) ?_
            refine T.nil ?_
            cases hY1
            exact fun a w' hf hh => Exists.intro (IntKind.i64.wrap (x1 + 1)) (And.intro rfl (Exists.intro V10 (And.intro (View.le_trans hV8 hV10) (And.intro ((((((Fr.nil hf).pick hf 69 rfl).pick hf 68 rfl).pick hf 67 rfl).pick hf 2 rfl).pick hf 1 rfl) (hh.sub List.Sublist.slnil)))))
         ·
          rw [hc5, cond_false] at hY1
          refine T.exit ?_
          cases hY1
          cases (hr1 _ rfl)
          exact fun a w' hf hh => And.intro rfl (Exists.intro V8 (And.intro hV8 (And.intro (Fr.nil hf) (hh.sub List.Sublist.slnil))))
       ·
        rintro a w' ⟨rfl, V9, hV9, hf, hh⟩
        try dsimp only at hF
        refine (?_ : T 99 w V9 [] [] _) a w' hf hh
        clear hf hh
        refine T.seq ?_
        refine T.region ?_
        refine T.pure (.bool true) (by kernel_rfl) (fun _ => by kernel_rfl) ?_
        refine T.nil ?_
        cases hF
        refine T.ret rfl ?_
        exact T.ret1 rfl (ResIs.tmp rfl) fun w' hh => ⟨_, rfl, hh.below, (show _ from rfl)⟩

end Go.Proofs.Ytaodaihoglcinac
