/- The Go functions of group WDumpBack compute the pure functions of that group: written by walkgen.py. Condition of each: the pure function yields a result. -/
import Derived.Test.YtaccejbajgmdnaaDoorRecdL
import Derived.Test.YtaccejbajgmdnaaDoorEqsL
import Derived.Test.YtaccejbajgmdnaaDoorCodeL
import Derived.Test.YtaccejbajgmdnaaDoorWDumpBackF
import Derived.Test.YtaccejbajgmdnaaDoorEqL
namespace Go.Proofs.YtaccejbajgmdnaaDoor
set_option linter.unusedVariables false

set_option maxRecDepth 100000 in
set_option maxHeartbeats 4000000 in
theorem annalkeep_DumpBack_l (F : Nat) (p0 : (List DElem)) (p1 : Int) (r : Bool) (hF : annalkeep_DumpBack F p0 p1 = some r) (w : World) (hGl : Glob w) (A1 : Option Addr) (c1 : Nat) (hs1 : SlOk (vw w) eElem A1 c1 p0) :
    Calls Tryd.prog 6 #[.slice A1 p0.length c1, .int .i64 p1] w (Post (vSc eBool) r w) := by
 unfold annalkeep_DumpBack at hF
 refine T.start (l := [.slice A1 p0.length c1, .int .i64 p1]) Tryd.func6 rfl rfl rfl ?_
 refine T.seq ?_
 refine T.region ?_
 refine T.pure (.bool false) (by kernel_rfl) (fun _ => by kernel_rfl) ?_
 refine T.nil ?_
 refine T.seq ?_
 refine T.seq ?_
 refine T.region ?_
 refine T.pure (.agg #[.int .i64 0, .int .i64 0, .int .i64 0, .int .i64 1, .int .i64 0, .string (ByteArray.mk #[97, 32, 98])]) (by kernel_rfl) (fun _ => by kernel_rfl) ?_
 refine T.step (W1.new 36 [.int .i64 0, .int .i64 0, .int .i64 0, .int .i64 1, .int .i64 0, .string (ByteArray.mk #[97, 32, 98])] (fun b => .slice (some ⟨b, 0, none⟩) 1 1) (by kernel_rfl) (fun _ => by kernel_rfl) (fun b1 => ?_))
 obtain ⟨r1, hb1, hF⟩ := Option.bind_eq_some_iff.1 hF
 refine T.step (W1.call (vT2 (vSc eStr) (vSc eInt)) r1 14 #[.slice (some ⟨b1, 0, none⟩) 1 1] (by kernel_rfl) (fun _ => by kernel_rfl) (fun w' hh => dump_Print_l F [(DElem.mk (DKey.mk 0 0 0) 1 0 (ByteArray.mk #[97, 32, 98]))] r1 hb1 w' (Glob.mono hGl (View.le_trans hh.base hh.view)) (some ⟨b1, 0, none⟩) 1 (slok_lit (E := eElem) (f := DElem.cells) [(DElem.mk (DKey.mk 0 0 0) 1 0 (ByteArray.mk #[97, 32, 98]))] (fun _ _ => rfl) (Nat.le_of_ble_eq_true (by rfl)) (fun j => hh.cellBox (i := 0) (by rfl) j))) ?_)
 intro u V1 hV1 hu
 obtain rfl := (Sure.t2 sureStr sureInt) _ _ _ hu
 refine T.pure (.tuple #[.string r1.1, .int .i64 r1.2]) (by kernel_rfl) (fun _ => by kernel_rfl) ?_
 refine T.pure (.string r1.1) (by kernel_rfl) (fun _ => by kernel_rfl) ?_
 refine T.pure (.int .i64 r1.2) (by kernel_rfl) (fun _ => by kernel_rfl) ?_
 refine T.pure (.string r1.1) (by kernel_rfl) (fun _ => by kernel_rfl) ?_
 refine T.pure (.int .i64 r1.2) (by kernel_rfl) (fun _ => by kernel_rfl) ?_
 refine T.nil ?_
 refine T.cut (fun a w' => Fr 91 [(0, .slice A1 p0.length c1), (1, .int .i64 p1), (23, .bool ((r1.2 != 0) || (!(seq r1.1 (ByteArray.mk #[48, 32, 48, 32, 48, 32, 49, 32, 48, 32, 97, 37, 50, 48, 98, 10])))))] a ∧ Hp w V1 [] w') ?_ ?_
 ·
  refine T.region ?_
  refine T.pure (.int .i64 r1.2) (by kernel_rfl) (fun _ => by kernel_rfl) ?_
  refine T.pure (.bool (r1.2 != 0)) (by kernel_rfl) (fun _ => by kernel_rfl) ?_
  refine T.pure (.bool (r1.2 != 0)) (by kernel_rfl) (fun _ => by kernel_rfl) ?_
  cases hg1 : (r1.2 != 0)
  ·
   skip
   refine T.pure (.string r1.1) (by kernel_rfl) (fun _ => by kernel_rfl) ?_
   refine T.pure (.bool (!(seq r1.1 (ByteArray.mk #[48, 32, 48, 32, 48, 32, 49, 32, 48, 32, 97, 37, 50, 48, 98, 10])))) (by kernel_rfl) (fun _ => by kernel_rfl) ?_
   refine T.pure (.bool (!(seq r1.1 (ByteArray.mk #[48, 32, 48, 32, 48, 32, 49, 32, 48, 32, 97, 37, 50, 48, 98, 10])))) (by kernel_rfl) (fun _ => by kernel_rfl) ?_
   refine T.nil ?_
   exact fun a w' hf hh => And.intro ((((Fr.nil hf).pick hf 23 rfl).pick hf 1 rfl).pick hf 0 rfl) (hh.sub (.cons _ List.Sublist.slnil))
  ·
   skip
   refine T.pass (by kernel_rfl) (by kernel_rfl) ?_
   refine T.pass (by kernel_rfl) (by kernel_rfl) ?_
   refine T.pure (.bool true) (by kernel_rfl) (fun _ => by kernel_rfl) ?_
   refine T.nil ?_
   exact fun a w' hf hh => And.intro ((((Fr.nil hf).pick hf 23 rfl).pick hf 1 rfl).pick hf 0 rfl) (hh.sub (.cons _ List.Sublist.slnil))
 ·
  rintro a w' ⟨hf, hh⟩
  refine (?_ : T 91 w V1 [] [(0, .slice A1 p0.length c1), (1, .int .i64 p1), (23, .bool ((r1.2 != 0) || (!(seq r1.1 (ByteArray.mk #[48, 32, 48, 32, 48, 32, 49, 32, 48, 32, 97, 37, 50, 48, 98, 10])))))] _) a w' hf hh
  clear hf hh
  refine T.cond ((r1.2 != 0) || (!(seq r1.1 (ByteArray.mk #[48, 32, 48, 32, 48, 32, 49, 32, 48, 32, 97, 37, 50, 48, 98, 10])))) (by kernel_rfl) (by kernel_rfl) (fun hc1 => ?_) (fun hc1 => ?_)
  ·
   rw [hc1, cond_true] at hF
   refine T.seq ?_
   refine T.region ?_
   refine T.pure (.bool false) (by kernel_rfl) (fun _ => by kernel_rfl) ?_
   refine T.nil ?_
   cases hF
   refine T.ret rfl ?_
   exact T.ret1 rfl (ResIs.tmp rfl) fun w' hh => ⟨_, rfl, hh.below, (show _ from rfl)⟩
  ·
   rw [hc1, cond_false] at hF
   refine T.skip_code ?_
   refine T.seq ?_
   refine T.region ?_
   refine T.pure (.slice A1 p0.length c1) (by kernel_rfl) (fun _ => by kernel_rfl) ?_
   obtain ⟨r2, hb2, hF⟩ := Option.bind_eq_some_iff.1 hF
   refine T.step (W1.call (vT2 (vSc eStr) (vSc eInt)) r2 14 #[.slice A1 p0.length c1] (by kernel_rfl) (fun _ => by kernel_rfl) (fun w' hh => dump_Print_l F p0 r2 hb2 w' (Glob.mono hGl (View.le_trans hh.base hh.view)) A1 c1 (SlOk.mono (SlOk.mono hs1 hV1) hh.view)) ?_)
   intro u V2 hV2 hu
   obtain rfl := (Sure.t2 sureStr sureInt) _ _ _ hu
   refine T.pure (.tuple #[.string r2.1, .int .i64 r2.2]) (by kernel_rfl) (fun _ => by kernel_rfl) ?_
   refine T.pure (.string r2.1) (by kernel_rfl) (fun _ => by kernel_rfl) ?_
   refine T.pure (.int .i64 r2.2) (by kernel_rfl) (fun _ => by kernel_rfl) ?_
   refine T.pure (.string r2.1) (by kernel_rfl) (fun _ => by kernel_rfl) ?_
   refine T.pure (.int .i64 r2.2) (by kernel_rfl) (fun _ => by kernel_rfl) ?_
   refine T.nil ?_
   refine T.seq ?_
   refine T.seq ?_
   refine T.region ?_
   refine T.pure (.int .i64 r2.2) (by kernel_rfl) (fun _ => by kernel_rfl) ?_
   refine T.pure (.bool (r2.2 != 0)) (by kernel_rfl) (fun _ => by kernel_rfl) ?_
   refine T.nil ?_
   refine T.cond (r2.2 != 0) (by kernel_rfl) (by kernel_rfl) (fun hc2 => ?_) (fun hc2 => ?_)
   ·
    rw [hc2, cond_true] at hF
    obtain ⟨z1, hX1, hF⟩ := Option.bind_eq_some_iff.1 hF
    refine T.cut (fun a w' => ∃ (V3 : View), View.le V2 V3 ∧ Fr 91 [(4, .bool z1)] a ∧ Hp w V3 [] w') ?_ ?_
    ·
     refine T.region ?_
     refine T.pure (.string r2.1) (by kernel_rfl) (fun _ => by kernel_rfl) ?_
     refine T.pure (.bool (seq r2.1 (ByteArray.mk #[]))) (by kernel_rfl) (fun _ => by kernel_rfl) ?_
     refine T.pure (.bool (seq r2.1 (ByteArray.mk #[]))) (by kernel_rfl) (fun _ => by kernel_rfl) ?_
     cases hg2 : (seq r2.1 (ByteArray.mk #[]))
     ·
      skip
      rw [hg2, cond_false] at hX1
      refine T.pass (by kernel_rfl) (by kernel_rfl) ?_
      refine T.pass (by kernel_rfl) (by kernel_rfl) ?_
      refine T.pass (by kernel_rfl) (by kernel_rfl) ?_
      refine T.pass (by kernel_rfl) (by kernel_rfl) ?_
      refine T.pure (.bool false) (by kernel_rfl) (fun _ => by kernel_rfl) ?_
      refine T.pure (.bool false) (by kernel_rfl) (fun _ => by kernel_rfl) ?_
      refine T.nil ?_
      cases hX1
      exact fun a w' hf hh => Exists.intro V2 (And.intro (View.le_refl _) (And.intro ((Fr.nil hf).pick hf 4 rfl) (hh.sub List.Sublist.slnil)))
     ·
      skip
      rw [hg2, cond_true] at hX1
      refine T.pure (.int .i64 r2.2) (by kernel_rfl) (fun _ => by kernel_rfl) ?_
      refine T.pure (.slice A1 p0.length c1) (by kernel_rfl) (fun _ => by kernel_rfl) ?_
      obtain ⟨r3, hb3, hX1⟩ := Option.bind_eq_some_iff.1 hX1
      refine T.step (W1.call (vSc eInt) r3 15 #[.slice A1 p0.length c1] (by kernel_rfl) (fun _ => by kernel_rfl) (fun w' hh => run_Check_l F p0 r3 hb3 w' A1 c1 (SlOk.mono (SlOk.mono hs1 (View.le_trans hV1 hV2)) hh.view)) ?_)
      intro u V4 hV4 hu
      obtain rfl := sureInt _ _ _ hu
      refine T.pure (.bool (r2.2 == r3)) (by kernel_rfl) (fun _ => by kernel_rfl) ?_
      refine T.pure (.bool (r2.2 == r3)) (by kernel_rfl) (fun _ => by kernel_rfl) ?_
      refine T.pure (.bool (r2.2 == r3)) (by kernel_rfl) (fun _ => by kernel_rfl) ?_
      refine T.nil ?_
      cases hX1
      exact fun a w' hf hh => Exists.intro V4 (And.intro hV4 (And.intro ((Fr.nil hf).pick hf 4 rfl) (hh.sub List.Sublist.slnil)))
    ·
     rintro a w' ⟨V3, hV3, hf, hh⟩
     refine (?_ : T 91 w V3 [] [(4, .bool z1)] _) a w' hf hh
     clear hf hh
     cases hF
     refine T.ret rfl ?_
     exact T.ret1 rfl (ResIs.tmp rfl) fun w' hh => ⟨_, rfl, hh.below, (show _ from rfl)⟩
   ·
    rw [hc2, cond_false] at hF
    refine T.skip_code ?_
    refine T.seq ?_
    refine T.region ?_
    refine T.pure (.string r2.1) (by kernel_rfl) (fun _ => by kernel_rfl) ?_
    obtain ⟨r4, hb4, hF⟩ := Option.bind_eq_some_iff.1 hF
    refine T.step (W1.call (vT2 (vSc (eList eElem)) (vSc eInt)) r4 12 #[.string r2.1] (by kernel_rfl) (fun _ => by kernel_rfl) (fun w' hh => dump_Read_l F r2.1 r4 hb4 w' (Glob.mono hGl (View.le_trans hh.base hh.view))) ?_)
    intro u V5 hV5 hu
    obtain ⟨u1, u2, rfl, hu1, hu2⟩ := vT2_elim hu
    obtain ⟨A2, c2, rfl, hs2⟩ := vlist_elim hu1
    obtain rfl := sureInt _ _ _ hu2
    refine T.pure (.tuple #[.slice A2 r4.1.length c2, .int .i64 r4.2]) (by kernel_rfl) (fun _ => by kernel_rfl) ?_
    refine T.pure (.slice A2 r4.1.length c2) (by kernel_rfl) (fun _ => by kernel_rfl) ?_
    refine T.pure (.int .i64 r4.2) (by kernel_rfl) (fun _ => by kernel_rfl) ?_
    refine T.pure (.slice A2 r4.1.length c2) (by kernel_rfl) (fun _ => by kernel_rfl) ?_
    refine T.pure (.int .i64 r4.2) (by kernel_rfl) (fun _ => by kernel_rfl) ?_
    refine T.nil ?_
    refine T.seq ?_
    obtain ⟨z2, hX2, hF⟩ := Option.bind_eq_some_iff.1 hF
    refine T.cut (fun a w' => ∃ (V6 : View), View.le V5 V6 ∧ Fr 91 [(0, .slice A1 p0.length c1), (1, .int .i64 p1), (7, .string r2.1), (58, .bool z2)] a ∧ Hp w V6 [] w') ?_ ?_
    ·
     refine T.region ?_
     refine T.pure (.int .i64 r4.2) (by kernel_rfl) (fun _ => by kernel_rfl) ?_
     refine T.pure (.bool (r4.2 != 0)) (by kernel_rfl) (fun _ => by kernel_rfl) ?_
     refine T.pure (.bool (r4.2 != 0)) (by kernel_rfl) (fun _ => by kernel_rfl) ?_
     cases hg3 : (r4.2 != 0)
     ·
      skip
      rw [hg3, cond_false] at hX2
      refine T.pure (.slice A2 r4.1.length c2) (by kernel_rfl) (fun _ => by kernel_rfl) ?_
      refine T.pure (.slice A1 p0.length c1) (by kernel_rfl) (fun _ => by kernel_rfl) ?_
      obtain ⟨r5, hb5, hX2⟩ := Option.bind_eq_some_iff.1 hX2
      refine T.step (W1.call (vSc eBool) r5 13 #[.slice A2 r4.1.length c2, .slice A1 p0.length c1] (by kernel_rfl) (fun _ => by kernel_rfl) (fun w' hh => slices_Equal_Elem_l F r4.1 p0 r5 hb5 w' A2 c2 (SlOk.mono (SlOk.mono hs2 (View.le_trans (made_le _ _) (View.le_refl _))) hh.view) A1 c1 (SlOk.mono (SlOk.mono hs1 (View.le_trans (View.le_trans hV1 hV2) hV5)) hh.view)) ?_)
      intro u V7 hV7 hu
      obtain rfl := sureBool _ _ _ hu
      refine T.pure (.bool (!r5)) (by kernel_rfl) (fun _ => by kernel_rfl) ?_
      refine T.pure (.bool (!r5)) (by kernel_rfl) (fun _ => by kernel_rfl) ?_
      refine T.pure (.bool (!r5)) (by kernel_rfl) (fun _ => by kernel_rfl) ?_
      cases hg4 : (!r5)
      ·
       skip
       rw [hg4, cond_false] at hX2
       refine T.pure (.string r2.1) (by kernel_rfl) (fun _ => by kernel_rfl) ?_
       obtain ⟨r6, hb6, hX2⟩ := Option.bind_eq_some_iff.1 hX2
       refine T.step (W1.call (vSc eInt) r6 16 #[.string r2.1, .string (ByteArray.mk #[10])] (by kernel_rfl) (fun _ => by kernel_rfl) (fun w' hh => strings_Count_l r2.1 (ByteArray.mk #[10]) r6 hb6 w' ) ?_)
       intro u V8 hV8 hu
       obtain rfl := sureInt _ _ _ hu
       refine T.pure (.slice A1 p0.length c1) (by kernel_rfl) (fun _ => by kernel_rfl) ?_
       refine T.pure (.int .i64 (p0.length : Int)) (by kernel_rfl) (fun _ => by kernel_rfl) ?_
       refine T.pure (.bool (r6 != (p0.length : Int))) (by kernel_rfl) (fun _ => by kernel_rfl) ?_
       refine T.pure (.bool (r6 != (p0.length : Int))) (by kernel_rfl) (fun _ => by kernel_rfl) ?_
       refine T.nil ?_
       cases hX2
       exact fun a w' hf hh => Exists.intro V8 (And.intro (View.le_trans hV7 hV8) (And.intro (((((Fr.nil hf).pick hf 58 rfl).pick hf 7 rfl).pick hf 1 rfl).pick hf 0 rfl) (hh.sub List.Sublist.slnil)))
      ·
       skip
       rw [hg4, cond_true] at hX2
       refine T.pass (by kernel_rfl) (by kernel_rfl) ?_
       refine T.pass (by kernel_rfl) (by kernel_rfl) ?_
       refine T.pass (by kernel_rfl) (by kernel_rfl) ?_
       refine T.pass (by kernel_rfl) (by kernel_rfl) ?_
       refine T.pass (by kernel_rfl) (by kernel_rfl) ?_
       refine T.pure (.bool true) (by kernel_rfl) (fun _ => by kernel_rfl) ?_
       refine T.nil ?_
       cases hX2
       exact fun a w' hf hh => Exists.intro V7 (And.intro hV7 (And.intro (((((Fr.nil hf).pick hf 58 rfl).pick hf 7 rfl).pick hf 1 rfl).pick hf 0 rfl) (hh.sub List.Sublist.slnil)))
     ·
      skip
      rw [hg3, cond_true] at hX2
      refine T.pass (by kernel_rfl) (by kernel_rfl) ?_
      refine T.pass (by kernel_rfl) (by kernel_rfl) ?_
      refine T.pass (by kernel_rfl) (by kernel_rfl) ?_
      refine T.pass (by kernel_rfl) (by kernel_rfl) ?_
      refine T.pure (.bool true) (by kernel_rfl) (fun _ => by kernel_rfl) ?_
      refine T.pure (.bool true) (by kernel_rfl) (fun _ => by kernel_rfl) ?_
      refine T.pass (by kernel_rfl) (by kernel_rfl) ?_
      refine T.pass (by kernel_rfl) (by kernel_rfl) ?_
      refine T.pass (by kernel_rfl) (by kernel_rfl) ?_
      refine T.pass (by kernel_rfl) (by kernel_rfl) ?_
      refine T.pass (by kernel_rfl) (by kernel_rfl) ?_
      refine T.pure (.bool true) (by kernel_rfl) (fun _ => by kernel_rfl) ?_
      refine T.nil ?_
      cases hX2
      exact fun a w' hf hh => Exists.intro V5 (And.intro (View.le_refl _) (And.intro (((((Fr.nil hf).pick hf 58 rfl).pick hf 7 rfl).pick hf 1 rfl).pick hf 0 rfl) (hh.sub List.Sublist.slnil)))
    ·
     rintro a w' ⟨V6, hV6, hf, hh⟩
     refine (?_ : T 91 w V6 [] [(0, .slice A1 p0.length c1), (1, .int .i64 p1), (7, .string r2.1), (58, .bool z2)] _) a w' hf hh
     clear hf hh
     refine T.cond z2 (by kernel_rfl) (by kernel_rfl) (fun hc3 => ?_) (fun hc3 => ?_)
     ·
      rw [hc3, cond_true] at hF
      refine T.seq ?_
      refine T.region ?_
      refine T.pure (.bool false) (by kernel_rfl) (fun _ => by kernel_rfl) ?_
      refine T.nil ?_
      cases hF
      refine T.ret rfl ?_
      exact T.ret1 rfl (ResIs.tmp rfl) fun w' hh => ⟨_, rfl, hh.below, (show _ from rfl)⟩
     ·
      rw [hc3, cond_false] at hF
      refine T.skip_code ?_
      refine T.seq ?_
      refine T.region ?_
      refine T.pure (.string r2.1) (by kernel_rfl) (fun _ => by kernel_rfl) ?_
      refine T.pure (.int .i64 p1) (by kernel_rfl) (fun _ => by kernel_rfl) ?_
      refine T.pure (.string r2.1) (by kernel_rfl) (fun _ => by kernel_rfl) ?_
      refine T.pure (.int .i64 (r2.1.size : Int)) (by kernel_rfl) (fun _ => by kernel_rfl) ?_
      refine T.pure (.int .i64 (IntKind.i64.wrap ((r2.1.size : Int) + 1))) (by kernel_rfl) (fun _ => by kernel_rfl) ?_
      obtain ⟨r7, hb7, hF⟩ := Option.bind_eq_some_iff.1 hF
      refine T.step (W1.call (vSc eInt) r7 17 #[.int .i64 p1, .int .i64 (IntKind.i64.wrap ((r2.1.size : Int) + 1))] (by kernel_rfl) (fun _ => by kernel_rfl) (fun w' hh => annalkeep_Within_l p1 (IntKind.i64.wrap ((r2.1.size : Int) + 1)) r7 hb7 w' ) ?_)
      intro u V9 hV9 hu
      obtain rfl := sureInt _ _ _ hu
      obtain ⟨s1, hb8, hF⟩ := Option.bind_eq_some_iff.1 hF
      refine T.look (.string s1) (by kernel_rfl) (fun w' hh => exec_slice_str_hi rfl rfl rfl (by kernel_rfl) hb8) ?_
      refine T.pure (.string s1) (by kernel_rfl) (fun _ => by kernel_rfl) ?_
      refine T.nil ?_
      refine T.seq ?_
      refine T.region ?_
      refine T.pure (.string s1) (by kernel_rfl) (fun _ => by kernel_rfl) ?_
      obtain ⟨r8, hb9, hF⟩ := Option.bind_eq_some_iff.1 hF
      refine T.step (W1.call (vT2 (vSc (eList eElem)) (vSc eInt)) r8 12 #[.string s1] (by kernel_rfl) (fun _ => by kernel_rfl) (fun w' hh => dump_Read_l F s1 r8 hb9 w' (Glob.mono hGl (View.le_trans hh.base hh.view))) ?_)
      intro u V10 hV10 hu
      obtain ⟨u3, u4, rfl, hu3, hu4⟩ := vT2_elim hu
      obtain ⟨A3, c3, rfl, hs3⟩ := vlist_elim hu3
      obtain rfl := sureInt _ _ _ hu4
      refine T.pure (.tuple #[.slice A3 r8.1.length c3, .int .i64 r8.2]) (by kernel_rfl) (fun _ => by kernel_rfl) ?_
      refine T.pure (.slice A3 r8.1.length c3) (by kernel_rfl) (fun _ => by kernel_rfl) ?_
      refine T.pure (.int .i64 r8.2) (by kernel_rfl) (fun _ => by kernel_rfl) ?_
      refine T.pure (.slice A3 r8.1.length c3) (by kernel_rfl) (fun _ => by kernel_rfl) ?_
      refine T.pure (.int .i64 r8.2) (by kernel_rfl) (fun _ => by kernel_rfl) ?_
      refine T.nil ?_
      refine T.seq ?_
      obtain ⟨z3, hX3, hF⟩ := Option.bind_eq_some_iff.1 hF
      refine T.cut (fun a w' => ∃ (V11 : View), View.le V10 V11 ∧ Fr 91 [(0, .slice A1 p0.length c1), (8, .int .i64 r8.2), (9, .slice A3 r8.1.length c3), (10, .string s1), (77, .bool z3)] a ∧ Hp w V11 [] w') ?_ ?_
      ·
       refine T.region ?_
       refine T.pure (.string s1) (by kernel_rfl) (fun _ => by kernel_rfl) ?_
       refine T.pure (.bool (!(seq s1 (ByteArray.mk #[])))) (by kernel_rfl) (fun _ => by kernel_rfl) ?_
       refine T.pure (.bool (!(seq s1 (ByteArray.mk #[])))) (by kernel_rfl) (fun _ => by kernel_rfl) ?_
       cases hg5 : (!(seq s1 (ByteArray.mk #[])))
       ·
        skip
        rw [hg5, cond_false] at hX3
        refine T.pass (by kernel_rfl) (by kernel_rfl) ?_
        refine T.pass (by kernel_rfl) (by kernel_rfl) ?_
        refine T.pass (by kernel_rfl) (by kernel_rfl) ?_
        refine T.pure (.bool false) (by kernel_rfl) (fun _ => by kernel_rfl) ?_
        refine T.nil ?_
        cases hX3
        exact fun a w' hf hh => Exists.intro V10 (And.intro (View.le_refl _) (And.intro ((((((Fr.nil hf).pick hf 77 rfl).pick hf 10 rfl).pick hf 9 rfl).pick hf 8 rfl).pick hf 0 rfl) (hh.sub List.Sublist.slnil)))
       ·
        skip
        rw [hg5, cond_true] at hX3
        refine T.pure (.string s1) (by kernel_rfl) (fun _ => by kernel_rfl) ?_
        obtain ⟨r9, hb10, hX3⟩ := Option.bind_eq_some_iff.1 hX3
        refine T.step (W1.call (vSc eBool) r9 18 #[.string s1, .string (ByteArray.mk #[10])] (by kernel_rfl) (fun _ => by kernel_rfl) (fun w' hh => strings_HasSuffix_l s1 (ByteArray.mk #[10]) r9 hb10 w' ) ?_)
        intro u V12 hV12 hu
        obtain rfl := sureBool _ _ _ hu
        refine T.pure (.bool (!r9)) (by kernel_rfl) (fun _ => by kernel_rfl) ?_
        refine T.pure (.bool (!r9)) (by kernel_rfl) (fun _ => by kernel_rfl) ?_
        refine T.nil ?_
        cases hX3
        exact fun a w' hf hh => Exists.intro V12 (And.intro hV12 (And.intro ((((((Fr.nil hf).pick hf 77 rfl).pick hf 10 rfl).pick hf 9 rfl).pick hf 8 rfl).pick hf 0 rfl) (hh.sub List.Sublist.slnil)))
      ·
       rintro a w' ⟨V11, hV11, hf, hh⟩
       refine (?_ : T 91 w V11 [] [(0, .slice A1 p0.length c1), (8, .int .i64 r8.2), (9, .slice A3 r8.1.length c3), (10, .string s1), (77, .bool z3)] _) a w' hf hh
       clear hf hh
       refine T.cond z3 (by kernel_rfl) (by kernel_rfl) (fun hc4 => ?_) (fun hc4 => ?_)
       ·
        rw [hc4, cond_true] at hF
        refine T.seq ?_
        refine T.region ?_
        refine T.pure (.int .i64 r8.2) (by kernel_rfl) (fun _ => by kernel_rfl) ?_
        refine T.pure (.bool (r8.2 == 3)) (by kernel_rfl) (fun _ => by kernel_rfl) ?_
        refine T.pure (.bool (r8.2 == 3)) (by kernel_rfl) (fun _ => by kernel_rfl) ?_
        refine T.nil ?_
        cases hF
        refine T.ret rfl ?_
        exact T.ret1 rfl (ResIs.tmp rfl) fun w' hh => ⟨_, rfl, hh.below, (show _ from rfl)⟩
       ·
        rw [hc4, cond_false] at hF
        refine T.skip_code ?_
        refine T.seq ?_
        refine T.region ?_
        refine T.pure (.string s1) (by kernel_rfl) (fun _ => by kernel_rfl) ?_
        obtain ⟨r10, hb11, hF⟩ := Option.bind_eq_some_iff.1 hF
        refine T.step (W1.call (vSc eInt) r10 16 #[.string s1, .string (ByteArray.mk #[10])] (by kernel_rfl) (fun _ => by kernel_rfl) (fun w' hh => strings_Count_l s1 (ByteArray.mk #[10]) r10 hb11 w' ) ?_)
        intro u V13 hV13 hu
        obtain rfl := sureInt _ _ _ hu
        refine T.pure (.int .i64 r10) (by kernel_rfl) (fun _ => by kernel_rfl) ?_
        refine T.nil ?_
        obtain ⟨z4, hX4, hF⟩ := Option.bind_eq_some_iff.1 hF
        refine T.cut (fun a w' => ∃ (V14 : View), View.le V13 V14 ∧ Fr 91 [(4, .bool z4)] a ∧ Hp w V14 [] w') ?_ ?_
        ·
         refine T.region ?_
         refine T.pure (.int .i64 r8.2) (by kernel_rfl) (fun _ => by kernel_rfl) ?_
         refine T.pure (.bool (r8.2 == 0)) (by kernel_rfl) (fun _ => by kernel_rfl) ?_
         refine T.pure (.bool (r8.2 == 0)) (by kernel_rfl) (fun _ => by kernel_rfl) ?_
         cases hg6 : (r8.2 == 0)
         ·
          skip
          rw [hg6, cond_false] at hX4
          refine T.pass (by kernel_rfl) (by kernel_rfl) ?_
          refine T.pass (by kernel_rfl) (by kernel_rfl) ?_
          refine T.pass (by kernel_rfl) (by kernel_rfl) ?_
          refine T.pass (by kernel_rfl) (by kernel_rfl) ?_
          refine T.pass (by kernel_rfl) (by kernel_rfl) ?_
          refine T.pure (.bool false) (by kernel_rfl) (fun _ => by kernel_rfl) ?_
          refine T.pure (.bool false) (by kernel_rfl) (fun _ => by kernel_rfl) ?_
          refine T.nil ?_
          cases hX4
          exact fun a w' hf hh => Exists.intro V13 (And.intro (View.le_refl _) (And.intro ((Fr.nil hf).pick hf 4 rfl) (hh.sub List.Sublist.slnil)))
         ·
          skip
          rw [hg6, cond_true] at hX4
          refine T.pure (.slice A3 r8.1.length c3) (by kernel_rfl) (fun _ => by kernel_rfl) ?_
          refine T.pure (.slice A1 p0.length c1) (by kernel_rfl) (fun _ => by kernel_rfl) ?_
          refine T.pure (.int .i64 r10) (by kernel_rfl) (fun _ => by kernel_rfl) ?_
          obtain ⟨s2, hb12, hX4⟩ := Option.bind_eq_some_iff.1 hX4
          refine T.look (.slice A1 s2.length c1) (by kernel_rfl) (fun w' hh => exec_slice_list0 (e := 36) (s := 6) (lx := none) (hx := (some _)) (k := .i64) (k' := .i64) rfl rfl (by kernel_rfl) (by kernel_rfl) ((SlOk.mono hs1 (View.le_trans (View.le_trans (View.le_trans (View.le_trans (View.le_trans (View.le_trans (View.le_trans hV1 hV2) hV5) hV6) hV9) hV10) hV11) hV13))).1 rfl rfl hb12) ?_
          obtain ⟨r11, hb13, hX4⟩ := Option.bind_eq_some_iff.1 hX4
          refine T.step (W1.call (vSc eBool) r11 13 #[.slice A3 r8.1.length c3, .slice A1 s2.length c1] (by kernel_rfl) (fun _ => by kernel_rfl) (fun w' hh => slices_Equal_Elem_l F r8.1 s2 r11 hb13 w' A3 c3 (SlOk.mono (SlOk.mono hs3 (View.le_trans (made_le _ _) (View.le_trans hV11 hV13))) hh.view) A1 c1 (SlOk.cut0 (SlOk.mono (SlOk.mono hs1 (View.le_trans (View.le_trans (View.le_trans (View.le_trans (View.le_trans (View.le_trans (View.le_trans hV1 hV2) hV5) hV6) hV9) hV10) hV11) hV13)) hh.view) hb12)) ?_)
          intro u V15 hV15 hu
          obtain rfl := sureBool _ _ _ hu
          refine T.pure (.bool r11) (by kernel_rfl) (fun _ => by kernel_rfl) ?_
          refine T.pure (.bool r11) (by kernel_rfl) (fun _ => by kernel_rfl) ?_
          refine T.nil ?_
          cases hX4
          exact fun a w' hf hh => Exists.intro V15 (And.intro hV15 (And.intro ((Fr.nil hf).pick hf 4 rfl) (hh.sub List.Sublist.slnil)))
        ·
         rintro a w' ⟨V14, hV14, hf, hh⟩
         refine (?_ : T 91 w V14 [] [(4, .bool z4)] _) a w' hf hh
         clear hf hh
         cases hF
         refine T.ret rfl ?_
         exact T.ret1 rfl (ResIs.tmp rfl) fun w' hh => ⟨_, rfl, hh.below, (show _ from rfl)⟩

end Go.Proofs.YtaccejbajgmdnaaDoor
