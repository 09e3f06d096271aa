/- The Go functions of group WDirPast compute the pure functions of that group: written by walkgen.py. Condition of each: the pure function yields a result. -/
import Derived.Test.YtaccejbajgmdnaaDoorDirL
import Derived.Test.YtaccejbajgmdnaaDoorWDirPastF
import Derived.Test.YtaccejbajgmdnaaDoorEqL
namespace Go.Proofs.YtaccejbajgmdnaaDoor
set_option linter.unusedVariables false

set_option maxRecDepth 100000 in
set_option maxHeartbeats 4000000 in
theorem annalkeep_DirPast_l (F : Nat) (p0 : (List DElem)) (p1 : Int) (p2 : Int) (p3 : ByteArray) (p4 : Int) (p5 : Int) (r : Bool) (hF : annalkeep_DirPast F p0 p1 p2 p3 p4 p5 = some r) (w : World) (hGl : Glob w) (A1 : Option Addr) (c1 : Nat) (hs1 : SlOk (vw w) eElem A1 c1 p0) :
    Calls Tryd.prog 4 #[.slice A1 p0.length c1, .int .i64 p1, .int .i64 p2, .string p3, .int .i64 p4, .int .i64 p5] w (Post (vSc eBool) r w) := by
 unfold annalkeep_DirPast at hF
 refine T.start (l := [.slice A1 p0.length c1, .int .i64 p1, .int .i64 p2, .string p3, .int .i64 p4, .int .i64 p5]) Tryd.func4 rfl rfl rfl ?_
 refine T.seq ?_
 refine T.region ?_
 refine T.pure (.bool false) (by kernel_rfl) (fun _ => by kernel_rfl) ?_
 refine T.nil ?_
 refine T.seq ?_
 refine T.region ?_
 obtain ⟨r1, hb1, hF⟩ := Option.bind_eq_some_iff.1 hF
 refine T.step (W1.call (vT2 (vSc (eList eElem)) (vSc eInt)) r1 9 #[.slice none 0 0, .int .i64 0, .int .i64 1, .string (ByteArray.mk #[97, 98]), .int .i64 7, .int .i64 1] (by kernel_rfl) (fun _ => by kernel_rfl) (fun w' hh => dir_Add_l F ([] : List DElem) 0 1 (ByteArray.mk #[97, 98]) 7 1 r1 hb1 w' (Glob.mono hGl (View.le_trans hh.base hh.view)) none 0 (SlOk.nil _ _)) ?_)
 intro u V1 hV1 hu
 obtain ⟨u1, u2, rfl, hu1, hu2⟩ := vT2_elim hu
 obtain ⟨A2, c2, rfl, hs2⟩ := vlist_elim hu1
 obtain rfl := sureInt _ _ _ hu2
 refine T.pure (.tuple #[.slice A2 r1.1.length c2, .int .i64 r1.2]) (by kernel_rfl) (fun _ => by kernel_rfl) ?_
 refine T.pure (.slice A2 r1.1.length c2) (by kernel_rfl) (fun _ => by kernel_rfl) ?_
 refine T.pure (.int .i64 r1.2) (by kernel_rfl) (fun _ => by kernel_rfl) ?_
 refine T.pure (.slice A2 r1.1.length c2) (by kernel_rfl) (fun _ => by kernel_rfl) ?_
 refine T.pure (.int .i64 r1.2) (by kernel_rfl) (fun _ => by kernel_rfl) ?_
 refine T.nil ?_
 refine T.seq ?_
 refine T.region ?_
 refine T.pure (.slice A2 r1.1.length c2) (by kernel_rfl) (fun _ => by kernel_rfl) ?_
 obtain ⟨r2, hb2, hF⟩ := Option.bind_eq_some_iff.1 hF
 refine T.step (W1.call (vT2 (vSc (eList eElem)) (vSc eInt)) r2 10 #[.slice A2 r1.1.length c2, .int .i64 0, .int .i64 1, .string (ByteArray.mk #[97, 98]), .int .i64 3] (by kernel_rfl) (fun _ => by kernel_rfl) (fun w' hh => dir_Drop_l F r1.1 0 1 (ByteArray.mk #[97, 98]) 3 r2 hb2 w' (Glob.mono hGl (View.le_trans hh.base hh.view)) A2 c2 (SlOk.mono (SlOk.mono hs2 (View.le_trans (made_le _ _) (View.le_refl _))) hh.view)) ?_)
 intro u V2 hV2 hu
 obtain ⟨u3, u4, rfl, hu3, hu4⟩ := vT2_elim hu
 obtain ⟨A3, c3, rfl, hs3⟩ := vlist_elim hu3
 obtain rfl := sureInt _ _ _ hu4
 refine T.pure (.tuple #[.slice A3 r2.1.length c3, .int .i64 r2.2]) (by kernel_rfl) (fun _ => by kernel_rfl) ?_
 refine T.pure (.slice A3 r2.1.length c3) (by kernel_rfl) (fun _ => by kernel_rfl) ?_
 refine T.pure (.int .i64 r2.2) (by kernel_rfl) (fun _ => by kernel_rfl) ?_
 refine T.pure (.slice A3 r2.1.length c3) (by kernel_rfl) (fun _ => by kernel_rfl) ?_
 refine T.pure (.int .i64 r2.2) (by kernel_rfl) (fun _ => by kernel_rfl) ?_
 refine T.nil ?_
 refine T.seq ?_
 refine T.seq ?_
 refine T.region ?_
 refine T.pure (.slice A3 r2.1.length c3) (by kernel_rfl) (fun _ => by kernel_rfl) ?_
 obtain ⟨r3, hb3, hF⟩ := Option.bind_eq_some_iff.1 hF
 refine T.step (W1.call (vT2 (vSc eInt) (vSc eInt)) r3 11 #[.slice A3 r2.1.length c3, .int .i64 0, .int .i64 1, .string (ByteArray.mk #[97, 98]), .int .i64 2] (by kernel_rfl) (fun _ => by kernel_rfl) (fun w' hh => dir_Find_l F r2.1 0 1 (ByteArray.mk #[97, 98]) 2 r3 hb3 w' (Glob.mono hGl (View.le_trans hh.base hh.view)) A3 c3 (SlOk.mono (SlOk.mono hs3 (View.le_trans (made_le _ _) (View.le_refl _))) hh.view)) ?_)
 intro u V3 hV3 hu
 obtain rfl := (Sure.t2 sureInt sureInt) _ _ _ hu
 refine T.pure (.tuple #[.int .i64 r3.1, .int .i64 r3.2]) (by kernel_rfl) (fun _ => by kernel_rfl) ?_
 refine T.pure (.int .i64 r3.1) (by kernel_rfl) (fun _ => by kernel_rfl) ?_
 refine T.pure (.int .i64 r3.2) (by kernel_rfl) (fun _ => by kernel_rfl) ?_
 refine T.pure (.int .i64 r3.1) (by kernel_rfl) (fun _ => by kernel_rfl) ?_
 refine T.pure (.int .i64 r3.2) (by kernel_rfl) (fun _ => by kernel_rfl) ?_
 refine T.nil ?_
 refine T.cut (fun a w' => Fr 108 [(0, .slice A1 p0.length c1), (1, .int .i64 p1), (2, .int .i64 p2), (3, .string p3), (4, .int .i64 p4), (5, .int .i64 p5), (51, .bool ((r1.2 != 0) || ((r2.2 != 0) || ((r3.2 != 0) || (r3.1 != 7)))))] a ∧ Hp w V3 [] w') ?_ ?_
 ·
  refine T.region ?_
  refine T.pure (.int .i64 r1.2) (by kernel_rfl) (fun _ => by kernel_rfl) ?_
  refine T.pure (.bool (r1.2 != 0)) (by kernel_rfl) (fun _ => by kernel_rfl) ?_
  refine T.pure (.bool (r1.2 != 0)) (by kernel_rfl) (fun _ => by kernel_rfl) ?_
  cases hg1 : (r1.2 != 0)
  ·
   skip
   refine T.pure (.int .i64 r2.2) (by kernel_rfl) (fun _ => by kernel_rfl) ?_
   refine T.pure (.bool (r2.2 != 0)) (by kernel_rfl) (fun _ => by kernel_rfl) ?_
   refine T.pure (.bool (r2.2 != 0)) (by kernel_rfl) (fun _ => by kernel_rfl) ?_
   refine T.pure (.bool (r2.2 != 0)) (by kernel_rfl) (fun _ => by kernel_rfl) ?_
   cases hg2 : (r2.2 != 0)
   ·
    skip
    refine T.pure (.int .i64 r3.2) (by kernel_rfl) (fun _ => by kernel_rfl) ?_
    refine T.pure (.bool (r3.2 != 0)) (by kernel_rfl) (fun _ => by kernel_rfl) ?_
    refine T.pure (.bool (r3.2 != 0)) (by kernel_rfl) (fun _ => by kernel_rfl) ?_
    refine T.pure (.bool (r3.2 != 0)) (by kernel_rfl) (fun _ => by kernel_rfl) ?_
    cases hg3 : (r3.2 != 0)
    ·
     skip
     refine T.pure (.int .i64 r3.1) (by kernel_rfl) (fun _ => by kernel_rfl) ?_
     refine T.pure (.bool (r3.1 != 7)) (by kernel_rfl) (fun _ => by kernel_rfl) ?_
     refine T.pure (.bool (r3.1 != 7)) (by kernel_rfl) (fun _ => by kernel_rfl) ?_
     refine T.nil ?_
     exact fun a w' hf hh => And.intro ((((((((Fr.nil hf).pick hf 51 rfl).pick hf 5 rfl).pick hf 4 rfl).pick hf 3 rfl).pick hf 2 rfl).pick hf 1 rfl).pick hf 0 rfl) (hh.sub List.Sublist.slnil)
    ·
     skip
     refine T.pass (by kernel_rfl) (by kernel_rfl) ?_
     refine T.pass (by kernel_rfl) (by kernel_rfl) ?_
     refine T.pure (.bool true) (by kernel_rfl) (fun _ => by kernel_rfl) ?_
     refine T.nil ?_
     exact fun a w' hf hh => And.intro ((((((((Fr.nil hf).pick hf 51 rfl).pick hf 5 rfl).pick hf 4 rfl).pick hf 3 rfl).pick hf 2 rfl).pick hf 1 rfl).pick hf 0 rfl) (hh.sub List.Sublist.slnil)
   ·
    skip
    refine T.pass (by kernel_rfl) (by kernel_rfl) ?_
    refine T.pass (by kernel_rfl) (by kernel_rfl) ?_
    refine T.pure (.bool true) (by kernel_rfl) (fun _ => by kernel_rfl) ?_
    refine T.pure (.bool true) (by kernel_rfl) (fun _ => by kernel_rfl) ?_
    refine T.pass (by kernel_rfl) (by kernel_rfl) ?_
    refine T.pass (by kernel_rfl) (by kernel_rfl) ?_
    refine T.pure (.bool true) (by kernel_rfl) (fun _ => by kernel_rfl) ?_
    refine T.nil ?_
    exact fun a w' hf hh => And.intro ((((((((Fr.nil hf).pick hf 51 rfl).pick hf 5 rfl).pick hf 4 rfl).pick hf 3 rfl).pick hf 2 rfl).pick hf 1 rfl).pick hf 0 rfl) (hh.sub List.Sublist.slnil)
  ·
   skip
   refine T.pass (by kernel_rfl) (by kernel_rfl) ?_
   refine T.pass (by kernel_rfl) (by kernel_rfl) ?_
   refine T.pure (.bool true) (by kernel_rfl) (fun _ => by kernel_rfl) ?_
   refine T.pure (.bool true) (by kernel_rfl) (fun _ => by kernel_rfl) ?_
   refine T.pass (by kernel_rfl) (by kernel_rfl) ?_
   refine T.pass (by kernel_rfl) (by kernel_rfl) ?_
   refine T.pure (.bool true) (by kernel_rfl) (fun _ => by kernel_rfl) ?_
   refine T.pure (.bool true) (by kernel_rfl) (fun _ => by kernel_rfl) ?_
   refine T.pass (by kernel_rfl) (by kernel_rfl) ?_
   refine T.pass (by kernel_rfl) (by kernel_rfl) ?_
   refine T.pure (.bool true) (by kernel_rfl) (fun _ => by kernel_rfl) ?_
   refine T.nil ?_
   exact fun a w' hf hh => And.intro ((((((((Fr.nil hf).pick hf 51 rfl).pick hf 5 rfl).pick hf 4 rfl).pick hf 3 rfl).pick hf 2 rfl).pick hf 1 rfl).pick hf 0 rfl) (hh.sub List.Sublist.slnil)
 ·
  rintro a w' ⟨hf, hh⟩
  refine (?_ : T 108 w V3 [] [(0, .slice A1 p0.length c1), (1, .int .i64 p1), (2, .int .i64 p2), (3, .string p3), (4, .int .i64 p4), (5, .int .i64 p5), (51, .bool ((r1.2 != 0) || ((r2.2 != 0) || ((r3.2 != 0) || (r3.1 != 7)))))] _) a w' hf hh
  clear hf hh
  refine T.cond ((r1.2 != 0) || ((r2.2 != 0) || ((r3.2 != 0) || (r3.1 != 7)))) (by kernel_rfl) (by kernel_rfl) (fun hc1 => ?_) (fun hc1 => ?_)
  ·
   rw [hc1, cond_true] at hF
   refine T.seq ?_
   refine T.region ?_
   refine T.pure (.bool false) (by kernel_rfl) (fun _ => by kernel_rfl) ?_
   refine T.nil ?_
   cases hF
   refine T.ret rfl ?_
   exact T.ret1 rfl (ResIs.tmp rfl) fun w' hh => ⟨_, rfl, hh.below, (show _ from rfl)⟩
  ·
   rw [hc1, cond_false] at hF
   refine T.skip_code ?_
   refine T.seq ?_
   refine T.region ?_
   refine T.pure (.slice A1 p0.length c1) (by kernel_rfl) (fun _ => by kernel_rfl) ?_
   refine T.pure (.int .i64 p1) (by kernel_rfl) (fun _ => by kernel_rfl) ?_
   refine T.pure (.int .i64 p2) (by kernel_rfl) (fun _ => by kernel_rfl) ?_
   refine T.pure (.string p3) (by kernel_rfl) (fun _ => by kernel_rfl) ?_
   refine T.pure (.int .i64 p4) (by kernel_rfl) (fun _ => by kernel_rfl) ?_
   obtain ⟨r4, hb4, hF⟩ := Option.bind_eq_some_iff.1 hF
   refine T.step (W1.call (vT2 (vSc (eList eElem)) (vSc eInt)) r4 10 #[.slice A1 p0.length c1, .int .i64 p1, .int .i64 p2, .string p3, .int .i64 p4] (by kernel_rfl) (fun _ => by kernel_rfl) (fun w' hh => dir_Drop_l F p0 p1 p2 p3 p4 r4 hb4 w' (Glob.mono hGl (View.le_trans hh.base hh.view)) A1 c1 (SlOk.mono (SlOk.mono hs1 (View.le_trans (View.le_trans hV1 hV2) hV3)) hh.view)) ?_)
   intro u V4 hV4 hu
   obtain ⟨u5, u6, rfl, hu5, hu6⟩ := vT2_elim hu
   obtain ⟨A4, c4, rfl, hs4⟩ := vlist_elim hu5
   obtain rfl := sureInt _ _ _ hu6
   refine T.pure (.tuple #[.slice A4 r4.1.length c4, .int .i64 r4.2]) (by kernel_rfl) (fun _ => by kernel_rfl) ?_
   refine T.pure (.slice A4 r4.1.length c4) (by kernel_rfl) (fun _ => by kernel_rfl) ?_
   refine T.pure (.int .i64 r4.2) (by kernel_rfl) (fun _ => by kernel_rfl) ?_
   refine T.pure (.slice A4 r4.1.length c4) (by kernel_rfl) (fun _ => by kernel_rfl) ?_
   refine T.pure (.int .i64 r4.2) (by kernel_rfl) (fun _ => by kernel_rfl) ?_
   refine T.nil ?_
   refine T.seq ?_
   refine T.seq ?_
   refine T.region ?_
   refine T.pure (.int .i64 r4.2) (by kernel_rfl) (fun _ => by kernel_rfl) ?_
   refine T.pure (.bool (r4.2 != 0)) (by kernel_rfl) (fun _ => by kernel_rfl) ?_
   refine T.nil ?_
   refine T.cond (r4.2 != 0) (by kernel_rfl) (by kernel_rfl) (fun hc2 => ?_) (fun hc2 => ?_)
   ·
    rw [hc2, cond_true] at hF
    refine T.seq ?_
    refine T.region ?_
    refine T.pure (.slice A4 r4.1.length c4) (by kernel_rfl) (fun _ => by kernel_rfl) ?_
    refine T.pure (.int .i64 (r4.1.length : Int)) (by kernel_rfl) (fun _ => by kernel_rfl) ?_
    refine T.pure (.bool ((r4.1.length : Int) == 0)) (by kernel_rfl) (fun _ => by kernel_rfl) ?_
    refine T.pure (.bool ((r4.1.length : Int) == 0)) (by kernel_rfl) (fun _ => by kernel_rfl) ?_
    refine T.nil ?_
    cases hF
    refine T.ret rfl ?_
    exact T.ret1 rfl (ResIs.tmp rfl) fun w' hh => ⟨_, rfl, hh.below, (show _ from rfl)⟩
   ·
    rw [hc2, cond_false] at hF
    refine T.skip_code ?_
    refine T.seq ?_
    refine T.region ?_
    refine T.pure (.int .i64 p5) (by kernel_rfl) (fun _ => by kernel_rfl) ?_
    refine T.pure (.int .i64 p4) (by kernel_rfl) (fun _ => by kernel_rfl) ?_
    refine T.pure (.int .i64 (IntKind.i64.wrap (p4 - 1))) (by kernel_rfl) (fun _ => by kernel_rfl) ?_
    refine T.pure (.int .i64 (if (IntKind.i64.wrap (p4 - 1)) < p5 then IntKind.i64.wrap (p4 - 1) else p5)) (by kernel_rfl) (fun _ => by kernel_rfl) ?_
    refine T.pure (.int .i64 (if (IntKind.i64.wrap (p4 - 1)) < p5 then IntKind.i64.wrap (p4 - 1) else p5)) (by kernel_rfl) (fun _ => by kernel_rfl) ?_
    refine T.nil ?_
    refine T.seq ?_
    refine T.region ?_
    refine T.pure (.slice A1 p0.length c1) (by kernel_rfl) (fun _ => by kernel_rfl) ?_
    refine T.pure (.int .i64 p1) (by kernel_rfl) (fun _ => by kernel_rfl) ?_
    refine T.pure (.int .i64 p2) (by kernel_rfl) (fun _ => by kernel_rfl) ?_
    refine T.pure (.string p3) (by kernel_rfl) (fun _ => by kernel_rfl) ?_
    refine T.pure (.int .i64 (if (IntKind.i64.wrap (p4 - 1)) < p5 then IntKind.i64.wrap (p4 - 1) else p5)) (by kernel_rfl) (fun _ => by kernel_rfl) ?_
    obtain ⟨r5, hb5, hF⟩ := Option.bind_eq_some_iff.1 hF
    refine T.step (W1.call (vT2 (vSc eInt) (vSc eInt)) r5 11 #[.slice A1 p0.length c1, .int .i64 p1, .int .i64 p2, .string p3, .int .i64 (if (IntKind.i64.wrap (p4 - 1)) < p5 then IntKind.i64.wrap (p4 - 1) else p5)] (by kernel_rfl) (fun _ => by kernel_rfl) (fun w' hh => dir_Find_l F p0 p1 p2 p3 (if (IntKind.i64.wrap (p4 - 1)) < p5 then IntKind.i64.wrap (p4 - 1) else p5) r5 hb5 w' (Glob.mono hGl (View.le_trans hh.base hh.view)) A1 c1 (SlOk.mono (SlOk.mono hs1 (View.le_trans (View.le_trans (View.le_trans hV1 hV2) hV3) hV4)) hh.view)) ?_)
    intro u V5 hV5 hu
    obtain rfl := (Sure.t2 sureInt sureInt) _ _ _ hu
    refine T.pure (.tuple #[.int .i64 r5.1, .int .i64 r5.2]) (by kernel_rfl) (fun _ => by kernel_rfl) ?_
    refine T.pure (.int .i64 r5.1) (by kernel_rfl) (fun _ => by kernel_rfl) ?_
    refine T.pure (.int .i64 r5.2) (by kernel_rfl) (fun _ => by kernel_rfl) ?_
    refine T.pure (.int .i64 r5.1) (by kernel_rfl) (fun _ => by kernel_rfl) ?_
    refine T.pure (.int .i64 r5.2) (by kernel_rfl) (fun _ => by kernel_rfl) ?_
    refine T.nil ?_
    refine T.seq ?_
    refine T.region ?_
    refine T.pure (.slice A4 r4.1.length c4) (by kernel_rfl) (fun _ => by kernel_rfl) ?_
    refine T.pure (.int .i64 p1) (by kernel_rfl) (fun _ => by kernel_rfl) ?_
    refine T.pure (.int .i64 p2) (by kernel_rfl) (fun _ => by kernel_rfl) ?_
    refine T.pure (.string p3) (by kernel_rfl) (fun _ => by kernel_rfl) ?_
    refine T.pure (.int .i64 (if (IntKind.i64.wrap (p4 - 1)) < p5 then IntKind.i64.wrap (p4 - 1) else p5)) (by kernel_rfl) (fun _ => by kernel_rfl) ?_
    obtain ⟨r6, hb6, hF⟩ := Option.bind_eq_some_iff.1 hF
    refine T.step (W1.call (vT2 (vSc eInt) (vSc eInt)) r6 11 #[.slice A4 r4.1.length c4, .int .i64 p1, .int .i64 p2, .string p3, .int .i64 (if (IntKind.i64.wrap (p4 - 1)) < p5 then IntKind.i64.wrap (p4 - 1) else p5)] (by kernel_rfl) (fun _ => by kernel_rfl) (fun w' hh => dir_Find_l F r4.1 p1 p2 p3 (if (IntKind.i64.wrap (p4 - 1)) < p5 then IntKind.i64.wrap (p4 - 1) else p5) r6 hb6 w' (Glob.mono hGl (View.le_trans hh.base hh.view)) A4 c4 (SlOk.mono (SlOk.mono hs4 (View.le_trans (made_le _ _) hV5)) hh.view)) ?_)
    intro u V6 hV6 hu
    obtain rfl := (Sure.t2 sureInt sureInt) _ _ _ hu
    refine T.pure (.tuple #[.int .i64 r6.1, .int .i64 r6.2]) (by kernel_rfl) (fun _ => by kernel_rfl) ?_
    refine T.pure (.int .i64 r6.1) (by kernel_rfl) (fun _ => by kernel_rfl) ?_
    refine T.pure (.int .i64 r6.2) (by kernel_rfl) (fun _ => by kernel_rfl) ?_
    refine T.pure (.int .i64 r6.1) (by kernel_rfl) (fun _ => by kernel_rfl) ?_
    refine T.pure (.int .i64 r6.2) (by kernel_rfl) (fun _ => by kernel_rfl) ?_
    refine T.nil ?_
    refine T.seq ?_
    refine T.region ?_
    refine T.pure (.slice A1 p0.length c1) (by kernel_rfl) (fun _ => by kernel_rfl) ?_
    refine T.pure (.int .i64 p1) (by kernel_rfl) (fun _ => by kernel_rfl) ?_
    refine T.pure (.int .i64 p2) (by kernel_rfl) (fun _ => by kernel_rfl) ?_
    refine T.pure (.string p3) (by kernel_rfl) (fun _ => by kernel_rfl) ?_
    obtain ⟨r7, hb7, hF⟩ := Option.bind_eq_some_iff.1 hF
    refine T.step (W1.call (vT2 (vSc eInt) (vSc eInt)) r7 11 #[.slice A1 p0.length c1, .int .i64 p1, .int .i64 p2, .string p3, .int .i64 2147483647] (by kernel_rfl) (fun _ => by kernel_rfl) (fun w' hh => dir_Find_l F p0 p1 p2 p3 2147483647 r7 hb7 w' (Glob.mono hGl (View.le_trans hh.base hh.view)) A1 c1 (SlOk.mono (SlOk.mono hs1 (View.le_trans (View.le_trans (View.le_trans (View.le_trans (View.le_trans hV1 hV2) hV3) hV4) hV5) hV6)) hh.view)) ?_)
    intro u V7 hV7 hu
    obtain rfl := (Sure.t2 sureInt sureInt) _ _ _ hu
    refine T.pure (.tuple #[.int .i64 r7.1, .int .i64 r7.2]) (by kernel_rfl) (fun _ => by kernel_rfl) ?_
    refine T.pure (.int .i64 r7.1) (by kernel_rfl) (fun _ => by kernel_rfl) ?_
    refine T.pure (.int .i64 r7.2) (by kernel_rfl) (fun _ => by kernel_rfl) ?_
    refine T.pure (.int .i64 r7.1) (by kernel_rfl) (fun _ => by kernel_rfl) ?_
    refine T.pure (.int .i64 r7.2) (by kernel_rfl) (fun _ => by kernel_rfl) ?_
    refine T.nil ?_
    refine T.cut (fun a w' => Fr 108 [(12, .bool ((r5.1 == r6.1) && ((r5.2 == r6.2) && (r7.2 == 0))))] a ∧ Hp w V7 [] w') ?_ ?_
    ·
     refine T.region ?_
     refine T.pure (.int .i64 r5.1) (by kernel_rfl) (fun _ => by kernel_rfl) ?_
     refine T.pure (.int .i64 r6.1) (by kernel_rfl) (fun _ => by kernel_rfl) ?_
     refine T.pure (.bool (r5.1 == r6.1)) (by kernel_rfl) (fun _ => by kernel_rfl) ?_
     refine T.pure (.bool (r5.1 == r6.1)) (by kernel_rfl) (fun _ => by kernel_rfl) ?_
     cases hg4 : (r5.1 == r6.1)
     ·
      skip
      refine T.pass (by kernel_rfl) (by kernel_rfl) ?_
      refine T.pass (by kernel_rfl) (by kernel_rfl) ?_
      refine T.pass (by kernel_rfl) (by kernel_rfl) ?_
      refine T.pure (.bool false) (by kernel_rfl) (fun _ => by kernel_rfl) ?_
      refine T.pure (.bool false) (by kernel_rfl) (fun _ => by kernel_rfl) ?_
      refine T.pass (by kernel_rfl) (by kernel_rfl) ?_
      refine T.pass (by kernel_rfl) (by kernel_rfl) ?_
      refine T.pure (.bool false) (by kernel_rfl) (fun _ => by kernel_rfl) ?_
      refine T.pure (.bool false) (by kernel_rfl) (fun _ => by kernel_rfl) ?_
      refine T.nil ?_
      exact fun a w' hf hh => And.intro ((Fr.nil hf).pick hf 12 rfl) (hh.sub List.Sublist.slnil)
     ·
      skip
      refine T.pure (.int .i64 r5.2) (by kernel_rfl) (fun _ => by kernel_rfl) ?_
      refine T.pure (.int .i64 r6.2) (by kernel_rfl) (fun _ => by kernel_rfl) ?_
      refine T.pure (.bool (r5.2 == r6.2)) (by kernel_rfl) (fun _ => by kernel_rfl) ?_
      refine T.pure (.bool (r5.2 == r6.2)) (by kernel_rfl) (fun _ => by kernel_rfl) ?_
      refine T.pure (.bool (r5.2 == r6.2)) (by kernel_rfl) (fun _ => by kernel_rfl) ?_
      cases hg5 : (r5.2 == r6.2)
      ·
       skip
       refine T.pass (by kernel_rfl) (by kernel_rfl) ?_
       refine T.pass (by kernel_rfl) (by kernel_rfl) ?_
       refine T.pure (.bool false) (by kernel_rfl) (fun _ => by kernel_rfl) ?_
       refine T.pure (.bool false) (by kernel_rfl) (fun _ => by kernel_rfl) ?_
       refine T.nil ?_
       exact fun a w' hf hh => And.intro ((Fr.nil hf).pick hf 12 rfl) (hh.sub List.Sublist.slnil)
      ·
       skip
       refine T.pure (.int .i64 r7.2) (by kernel_rfl) (fun _ => by kernel_rfl) ?_
       refine T.pure (.bool (r7.2 == 0)) (by kernel_rfl) (fun _ => by kernel_rfl) ?_
       refine T.pure (.bool (r7.2 == 0)) (by kernel_rfl) (fun _ => by kernel_rfl) ?_
       refine T.pure (.bool (r7.2 == 0)) (by kernel_rfl) (fun _ => by kernel_rfl) ?_
       refine T.nil ?_
       exact fun a w' hf hh => And.intro ((Fr.nil hf).pick hf 12 rfl) (hh.sub List.Sublist.slnil)
    ·
     rintro a w' ⟨hf, hh⟩
     refine (?_ : T 108 w V7 [] [(12, .bool ((r5.1 == r6.1) && ((r5.2 == r6.2) && (r7.2 == 0))))] _) a w' hf hh
     clear hf hh
     cases hF
     refine T.ret rfl ?_
     exact T.ret1 rfl (ResIs.tmp rfl) fun w' hh => ⟨_, rfl, hh.below, (show _ from rfl)⟩

end Go.Proofs.YtaccejbajgmdnaaDoor
