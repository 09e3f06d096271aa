/- The Go functions of group WDirOthers compute the pure functions of that group: written by walkgen.py. Condition of each: the pure function yields a result. -/
import Derived.Test.YtaccejbajgmdnaaDoorDirL
import Derived.Test.YtaccejbajgmdnaaDoorWDirOthersF
import Derived.Test.YtaccejbajgmdnaaDoorEqL
namespace Go.Proofs.YtaccejbajgmdnaaDoor
set_option linter.unusedVariables false

set_option maxRecDepth 100000 in
set_option maxHeartbeats 4000000 in
theorem annalkeep_DirOthers_l (F : Nat) (p0 : (List DElem)) (p1 : Int) (p2 : Int) (p3 : ByteArray) (p4 : ByteArray) (p5 : Int) (p6 : Int) (r : Bool) (hF : annalkeep_DirOthers F p0 p1 p2 p3 p4 p5 p6 = some r) (w : World) (hGl : Glob w) (A1 : Option Addr) (c1 : Nat) (hs1 : SlOk (vw w) eElem A1 c1 p0) :
    Calls Tryd.prog 3 #[.slice A1 p0.length c1, .int .i64 p1, .int .i64 p2, .string p3, .string p4, .int .i64 p5, .int .i64 p6] w (Post (vSc eBool) r w) := by
 unfold annalkeep_DirOthers at hF
 refine T.start (l := [.slice A1 p0.length c1, .int .i64 p1, .int .i64 p2, .string p3, .string p4, .int .i64 p5, .int .i64 p6]) Tryd.func3 rfl rfl rfl ?_
 refine T.seq ?_
 refine T.region ?_
 refine T.pure (.bool false) (by kernel_rfl) (fun _ => by kernel_rfl) ?_
 refine T.nil ?_
 refine T.seq ?_
 refine T.region ?_
 obtain ⟨r1, hb1, hF⟩ := Option.bind_eq_some_iff.1 hF
 refine T.step (W1.call (vT2 (vSc (eList eElem)) (vSc eInt)) r1 9 #[.slice none 0 0, .int .i64 0, .int .i64 1, .string (ByteArray.mk #[97, 98]), .int .i64 7, .int .i64 1] (by kernel_rfl) (fun _ => by kernel_rfl) (fun w' hh => dir_Add_l F ([] : List DElem) 0 1 (ByteArray.mk #[97, 98]) 7 1 r1 hb1 w' (Glob.mono hGl (View.le_trans hh.base hh.view)) none 0 (SlOk.nil _ _)) ?_)
 intro u V1 hV1 hu
 obtain ⟨u1, u2, rfl, hu1, hu2⟩ := vT2_elim hu
 obtain ⟨A2, c2, rfl, hs2⟩ := vlist_elim hu1
 obtain rfl := sureInt _ _ _ hu2
 refine T.pure (.tuple #[.slice A2 r1.1.length c2, .int .i64 r1.2]) (by kernel_rfl) (fun _ => by kernel_rfl) ?_
 refine T.pure (.slice A2 r1.1.length c2) (by kernel_rfl) (fun _ => by kernel_rfl) ?_
 refine T.pure (.int .i64 r1.2) (by kernel_rfl) (fun _ => by kernel_rfl) ?_
 refine T.pure (.slice A2 r1.1.length c2) (by kernel_rfl) (fun _ => by kernel_rfl) ?_
 refine T.pure (.int .i64 r1.2) (by kernel_rfl) (fun _ => by kernel_rfl) ?_
 refine T.nil ?_
 refine T.seq ?_
 refine T.region ?_
 refine T.pure (.slice A2 r1.1.length c2) (by kernel_rfl) (fun _ => by kernel_rfl) ?_
 obtain ⟨r2, hb2, hF⟩ := Option.bind_eq_some_iff.1 hF
 refine T.step (W1.call (vT2 (vSc (eList eElem)) (vSc eInt)) r2 10 #[.slice A2 r1.1.length c2, .int .i64 0, .int .i64 1, .string (ByteArray.mk #[97, 98]), .int .i64 1] (by kernel_rfl) (fun _ => by kernel_rfl) (fun w' hh => dir_Drop_l F r1.1 0 1 (ByteArray.mk #[97, 98]) 1 r2 hb2 w' (Glob.mono hGl (View.le_trans hh.base hh.view)) A2 c2 (SlOk.mono (SlOk.mono hs2 (View.le_trans (made_le _ _) (View.le_refl _))) hh.view)) ?_)
 intro u V2 hV2 hu
 obtain ⟨u3, u4, rfl, hu3, hu4⟩ := vT2_elim hu
 obtain ⟨A3, c3, rfl, hs3⟩ := vlist_elim hu3
 obtain rfl := sureInt _ _ _ hu4
 refine T.pure (.tuple #[.slice A3 r2.1.length c3, .int .i64 r2.2]) (by kernel_rfl) (fun _ => by kernel_rfl) ?_
 refine T.pure (.slice A3 r2.1.length c3) (by kernel_rfl) (fun _ => by kernel_rfl) ?_
 refine T.pure (.int .i64 r2.2) (by kernel_rfl) (fun _ => by kernel_rfl) ?_
 refine T.pure (.slice A3 r2.1.length c3) (by kernel_rfl) (fun _ => by kernel_rfl) ?_
 refine T.pure (.int .i64 r2.2) (by kernel_rfl) (fun _ => by kernel_rfl) ?_
 refine T.nil ?_
 refine T.seq ?_
 refine T.cut (fun a w' => Fr 119 [(0, .slice A1 p0.length c1), (1, .int .i64 p1), (2, .int .i64 p2), (3, .string p3), (4, .string p4), (5, .int .i64 p5), (6, .int .i64 p6), (52, .bool ((r1.2 != 0) || ((r2.2 != 0) || (((r1.1.length : Int) != 1) || ((r2.1.length : Int) != 0)))))] a ∧ Hp w V2 [] w') ?_ ?_
 ·
  refine T.region ?_
  refine T.pure (.int .i64 r1.2) (by kernel_rfl) (fun _ => by kernel_rfl) ?_
  refine T.pure (.bool (r1.2 != 0)) (by kernel_rfl) (fun _ => by kernel_rfl) ?_
  refine T.pure (.bool (r1.2 != 0)) (by kernel_rfl) (fun _ => by kernel_rfl) ?_
  cases hg1 : (r1.2 != 0)
  ·
   skip
   refine T.pure (.int .i64 r2.2) (by kernel_rfl) (fun _ => by kernel_rfl) ?_
   refine T.pure (.bool (r2.2 != 0)) (by kernel_rfl) (fun _ => by kernel_rfl) ?_
   refine T.pure (.bool (r2.2 != 0)) (by kernel_rfl) (fun _ => by kernel_rfl) ?_
   refine T.pure (.bool (r2.2 != 0)) (by kernel_rfl) (fun _ => by kernel_rfl) ?_
   cases hg2 : (r2.2 != 0)
   ·
    skip
    refine T.pure (.slice A2 r1.1.length c2) (by kernel_rfl) (fun _ => by kernel_rfl) ?_
    refine T.pure (.int .i64 (r1.1.length : Int)) (by kernel_rfl) (fun _ => by kernel_rfl) ?_
    refine T.pure (.bool ((r1.1.length : Int) != 1)) (by kernel_rfl) (fun _ => by kernel_rfl) ?_
    refine T.pure (.bool ((r1.1.length : Int) != 1)) (by kernel_rfl) (fun _ => by kernel_rfl) ?_
    refine T.pure (.bool ((r1.1.length : Int) != 1)) (by kernel_rfl) (fun _ => by kernel_rfl) ?_
    cases hg3 : ((r1.1.length : Int) != 1)
    ·
     skip
     refine T.pure (.slice A3 r2.1.length c3) (by kernel_rfl) (fun _ => by kernel_rfl) ?_
     refine T.pure (.int .i64 (r2.1.length : Int)) (by kernel_rfl) (fun _ => by kernel_rfl) ?_
     refine T.pure (.bool ((r2.1.length : Int) != 0)) (by kernel_rfl) (fun _ => by kernel_rfl) ?_
     refine T.pure (.bool ((r2.1.length : Int) != 0)) (by kernel_rfl) (fun _ => by kernel_rfl) ?_
     refine T.nil ?_
     exact fun a w' hf hh => And.intro (((((((((Fr.nil hf).pick hf 52 rfl).pick hf 6 rfl).pick hf 5 rfl).pick hf 4 rfl).pick hf 3 rfl).pick hf 2 rfl).pick hf 1 rfl).pick hf 0 rfl) (hh.sub List.Sublist.slnil)
    ·
     skip
     refine T.pass (by kernel_rfl) (by kernel_rfl) ?_
     refine T.pass (by kernel_rfl) (by kernel_rfl) ?_
     refine T.pass (by kernel_rfl) (by kernel_rfl) ?_
     refine T.pure (.bool true) (by kernel_rfl) (fun _ => by kernel_rfl) ?_
     refine T.nil ?_
     exact fun a w' hf hh => And.intro (((((((((Fr.nil hf).pick hf 52 rfl).pick hf 6 rfl).pick hf 5 rfl).pick hf 4 rfl).pick hf 3 rfl).pick hf 2 rfl).pick hf 1 rfl).pick hf 0 rfl) (hh.sub List.Sublist.slnil)
   ·
    skip
    refine T.pass (by kernel_rfl) (by kernel_rfl) ?_
    refine T.pass (by kernel_rfl) (by kernel_rfl) ?_
    refine T.pass (by kernel_rfl) (by kernel_rfl) ?_
    refine T.pure (.bool true) (by kernel_rfl) (fun _ => by kernel_rfl) ?_
    refine T.pure (.bool true) (by kernel_rfl) (fun _ => by kernel_rfl) ?_
    refine T.pass (by kernel_rfl) (by kernel_rfl) ?_
    refine T.pass (by kernel_rfl) (by kernel_rfl) ?_
    refine T.pass (by kernel_rfl) (by kernel_rfl) ?_
    refine T.pure (.bool true) (by kernel_rfl) (fun _ => by kernel_rfl) ?_
    refine T.nil ?_
    exact fun a w' hf hh => And.intro (((((((((Fr.nil hf).pick hf 52 rfl).pick hf 6 rfl).pick hf 5 rfl).pick hf 4 rfl).pick hf 3 rfl).pick hf 2 rfl).pick hf 1 rfl).pick hf 0 rfl) (hh.sub List.Sublist.slnil)
  ·
   skip
   refine T.pass (by kernel_rfl) (by kernel_rfl) ?_
   refine T.pass (by kernel_rfl) (by kernel_rfl) ?_
   refine T.pure (.bool true) (by kernel_rfl) (fun _ => by kernel_rfl) ?_
   refine T.pure (.bool true) (by kernel_rfl) (fun _ => by kernel_rfl) ?_
   refine T.pass (by kernel_rfl) (by kernel_rfl) ?_
   refine T.pass (by kernel_rfl) (by kernel_rfl) ?_
   refine T.pass (by kernel_rfl) (by kernel_rfl) ?_
   refine T.pure (.bool true) (by kernel_rfl) (fun _ => by kernel_rfl) ?_
   refine T.pure (.bool true) (by kernel_rfl) (fun _ => by kernel_rfl) ?_
   refine T.pass (by kernel_rfl) (by kernel_rfl) ?_
   refine T.pass (by kernel_rfl) (by kernel_rfl) ?_
   refine T.pass (by kernel_rfl) (by kernel_rfl) ?_
   refine T.pure (.bool true) (by kernel_rfl) (fun _ => by kernel_rfl) ?_
   refine T.nil ?_
   exact fun a w' hf hh => And.intro (((((((((Fr.nil hf).pick hf 52 rfl).pick hf 6 rfl).pick hf 5 rfl).pick hf 4 rfl).pick hf 3 rfl).pick hf 2 rfl).pick hf 1 rfl).pick hf 0 rfl) (hh.sub List.Sublist.slnil)
 ·
  rintro a w' ⟨hf, hh⟩
  refine (?_ : T 119 w V2 [] [(0, .slice A1 p0.length c1), (1, .int .i64 p1), (2, .int .i64 p2), (3, .string p3), (4, .string p4), (5, .int .i64 p5), (6, .int .i64 p6), (52, .bool ((r1.2 != 0) || ((r2.2 != 0) || (((r1.1.length : Int) != 1) || ((r2.1.length : Int) != 0)))))] _) a w' hf hh
  clear hf hh
  refine T.cond ((r1.2 != 0) || ((r2.2 != 0) || (((r1.1.length : Int) != 1) || ((r2.1.length : Int) != 0)))) (by kernel_rfl) (by kernel_rfl) (fun hc1 => ?_) (fun hc1 => ?_)
  ·
   rw [hc1, cond_true] at hF
   refine T.seq ?_
   refine T.region ?_
   refine T.pure (.bool false) (by kernel_rfl) (fun _ => by kernel_rfl) ?_
   refine T.nil ?_
   cases hF
   refine T.ret rfl ?_
   exact T.ret1 rfl (ResIs.tmp rfl) fun w' hh => ⟨_, rfl, hh.below, (show _ from rfl)⟩
  ·
   rw [hc1, cond_false] at hF
   refine T.skip_code ?_
   refine T.seq ?_
   refine T.seq ?_
   refine T.region ?_
   refine T.pure (.string p3) (by kernel_rfl) (fun _ => by kernel_rfl) ?_
   refine T.pure (.string p4) (by kernel_rfl) (fun _ => by kernel_rfl) ?_
   refine T.pure (.bool (seq p3 p4)) (by kernel_rfl) (fun _ => by kernel_rfl) ?_
   refine T.nil ?_
   refine T.cond (seq p3 p4) (by kernel_rfl) (by kernel_rfl) (fun hc2 => ?_) (fun hc2 => ?_)
   ·
    rw [hc2, cond_true] at hF
    refine T.seq ?_
    refine T.region ?_
    refine T.pure (.bool true) (by kernel_rfl) (fun _ => by kernel_rfl) ?_
    refine T.nil ?_
    cases hF
    refine T.ret rfl ?_
    exact T.ret1 rfl (ResIs.tmp rfl) fun w' hh => ⟨_, rfl, hh.below, (show _ from rfl)⟩
   ·
    rw [hc2, cond_false] at hF
    refine T.skip_code ?_
    refine T.seq ?_
    refine T.region ?_
    refine T.pure (.slice A1 p0.length c1) (by kernel_rfl) (fun _ => by kernel_rfl) ?_
    refine T.pure (.int .i64 p1) (by kernel_rfl) (fun _ => by kernel_rfl) ?_
    refine T.pure (.int .i64 p2) (by kernel_rfl) (fun _ => by kernel_rfl) ?_
    refine T.pure (.string p4) (by kernel_rfl) (fun _ => by kernel_rfl) ?_
    obtain ⟨r3, hb3, hF⟩ := Option.bind_eq_some_iff.1 hF
    refine T.step (W1.call (vT2 (vSc eInt) (vSc eInt)) r3 11 #[.slice A1 p0.length c1, .int .i64 p1, .int .i64 p2, .string p4, .int .i64 2147483647] (by kernel_rfl) (fun _ => by kernel_rfl) (fun w' hh => dir_Find_l F p0 p1 p2 p4 2147483647 r3 hb3 w' (Glob.mono hGl (View.le_trans hh.base hh.view)) A1 c1 (SlOk.mono (SlOk.mono hs1 (View.le_trans hV1 hV2)) hh.view)) ?_)
    intro u V3 hV3 hu
    obtain rfl := (Sure.t2 sureInt sureInt) _ _ _ hu
    refine T.pure (.tuple #[.int .i64 r3.1, .int .i64 r3.2]) (by kernel_rfl) (fun _ => by kernel_rfl) ?_
    refine T.pure (.int .i64 r3.1) (by kernel_rfl) (fun _ => by kernel_rfl) ?_
    refine T.pure (.int .i64 r3.2) (by kernel_rfl) (fun _ => by kernel_rfl) ?_
    refine T.pure (.int .i64 r3.1) (by kernel_rfl) (fun _ => by kernel_rfl) ?_
    refine T.pure (.int .i64 r3.2) (by kernel_rfl) (fun _ => by kernel_rfl) ?_
    refine T.nil ?_
    obtain ⟨q1, hX1, hF⟩ := Option.bind_eq_some_iff.1 hF
    refine T.cut (fun a w' => q1 = Sum.inl () ∧ ∃ (V4 : View), View.le V3 V4 ∧ Fr 119 [(0, .slice A1 p0.length c1), (1, .int .i64 p1), (2, .int .i64 p2), (3, .string p3), (4, .string p4), (6, .int .i64 p6), (16, .int .i64 r3.2), (19, .int .i64 r3.1)] a ∧ Hp w V4 [] w') ?_ ?_
    ·
     refine T.seq ?_
     refine T.region ?_
     refine T.pure (.slice A1 p0.length c1) (by kernel_rfl) (fun _ => by kernel_rfl) ?_
     refine T.pure (.int .i64 p1) (by kernel_rfl) (fun _ => by kernel_rfl) ?_
     refine T.pure (.int .i64 p2) (by kernel_rfl) (fun _ => by kernel_rfl) ?_
     refine T.pure (.string p3) (by kernel_rfl) (fun _ => by kernel_rfl) ?_
     refine T.pure (.int .i64 p5) (by kernel_rfl) (fun _ => by kernel_rfl) ?_
     refine T.pure (.int .i64 p6) (by kernel_rfl) (fun _ => by kernel_rfl) ?_
     obtain ⟨r4, hb4, hX1⟩ := Option.bind_eq_some_iff.1 hX1
     refine T.step (W1.call (vT2 (vSc (eList eElem)) (vSc eInt)) r4 9 #[.slice A1 p0.length c1, .int .i64 p1, .int .i64 p2, .string p3, .int .i64 p5, .int .i64 p6] (by kernel_rfl) (fun _ => by kernel_rfl) (fun w' hh => dir_Add_l F p0 p1 p2 p3 p5 p6 r4 hb4 w' (Glob.mono hGl (View.le_trans hh.base hh.view)) A1 c1 (SlOk.mono (SlOk.mono hs1 (View.le_trans (View.le_trans hV1 hV2) hV3)) hh.view)) ?_)
     intro u V5 hV5 hu
     obtain ⟨u5, u6, rfl, hu5, hu6⟩ := vT2_elim hu
     obtain ⟨A4, c4, rfl, hs4⟩ := vlist_elim hu5
     obtain rfl := sureInt _ _ _ hu6
     refine T.pure (.tuple #[.slice A4 r4.1.length c4, .int .i64 r4.2]) (by kernel_rfl) (fun _ => by kernel_rfl) ?_
     refine T.pure (.slice A4 r4.1.length c4) (by kernel_rfl) (fun _ => by kernel_rfl) ?_
     refine T.pure (.int .i64 r4.2) (by kernel_rfl) (fun _ => by kernel_rfl) ?_
     refine T.pure (.slice A4 r4.1.length c4) (by kernel_rfl) (fun _ => by kernel_rfl) ?_
     refine T.pure (.int .i64 r4.2) (by kernel_rfl) (fun _ => by kernel_rfl) ?_
     refine T.nil ?_
     refine T.seq ?_
     refine T.region ?_
     refine T.pure (.int .i64 r4.2) (by kernel_rfl) (fun _ => by kernel_rfl) ?_
     refine T.pure (.bool (r4.2 == 0)) (by kernel_rfl) (fun _ => by kernel_rfl) ?_
     refine T.nil ?_
     refine T.cond (r4.2 == 0) (by kernel_rfl) (by kernel_rfl) (fun hc3 => ?_) (fun hc3 => ?_)
     ·
      rw [hc3, cond_true] at hX1
      refine T.seq ?_
      refine T.region ?_
      refine T.pure (.slice A4 r4.1.length c4) (by kernel_rfl) (fun _ => by kernel_rfl) ?_
      refine T.pure (.int .i64 p1) (by kernel_rfl) (fun _ => by kernel_rfl) ?_
      refine T.pure (.int .i64 p2) (by kernel_rfl) (fun _ => by kernel_rfl) ?_
      refine T.pure (.string p4) (by kernel_rfl) (fun _ => by kernel_rfl) ?_
      obtain ⟨r5, hb5, hX1⟩ := Option.bind_eq_some_iff.1 hX1
      refine T.step (W1.call (vT2 (vSc eInt) (vSc eInt)) r5 11 #[.slice A4 r4.1.length c4, .int .i64 p1, .int .i64 p2, .string p4, .int .i64 2147483647] (by kernel_rfl) (fun _ => by kernel_rfl) (fun w' hh => dir_Find_l F r4.1 p1 p2 p4 2147483647 r5 hb5 w' (Glob.mono hGl (View.le_trans hh.base hh.view)) A4 c4 (SlOk.mono (SlOk.mono hs4 (View.le_trans (made_le _ _) (View.le_refl _))) hh.view)) ?_)
      intro u V6 hV6 hu
      obtain rfl := (Sure.t2 sureInt sureInt) _ _ _ hu
      refine T.pure (.tuple #[.int .i64 r5.1, .int .i64 r5.2]) (by kernel_rfl) (fun _ => by kernel_rfl) ?_
      refine T.pure (.int .i64 r5.1) (by kernel_rfl) (fun _ => by kernel_rfl) ?_
      refine T.pure (.int .i64 r5.2) (by kernel_rfl) (fun _ => by kernel_rfl) ?_
      refine T.pure (.int .i64 r5.1) (by kernel_rfl) (fun _ => by kernel_rfl) ?_
      refine T.pure (.int .i64 r5.2) (by kernel_rfl) (fun _ => by kernel_rfl) ?_
      refine T.nil ?_
      refine T.cut (fun a w' => Fr 119 [(0, .slice A1 p0.length c1), (1, .int .i64 p1), (2, .int .i64 p2), (3, .string p3), (4, .string p4), (6, .int .i64 p6), (16, .int .i64 r3.2), (19, .int .i64 r3.1), (91, .bool ((r3.1 != r5.1) || (r3.2 != r5.2)))] a ∧ Hp w V6 [] w') ?_ ?_
      ·
       refine T.region ?_
       refine T.pure (.int .i64 r3.1) (by kernel_rfl) (fun _ => by kernel_rfl) ?_
       refine T.pure (.int .i64 r5.1) (by kernel_rfl) (fun _ => by kernel_rfl) ?_
       refine T.pure (.bool (r3.1 != r5.1)) (by kernel_rfl) (fun _ => by kernel_rfl) ?_
       refine T.pure (.bool (r3.1 != r5.1)) (by kernel_rfl) (fun _ => by kernel_rfl) ?_
       cases hg4 : (r3.1 != r5.1)
       ·
        skip
        refine T.pure (.int .i64 r3.2) (by kernel_rfl) (fun _ => by kernel_rfl) ?_
        refine T.pure (.int .i64 r5.2) (by kernel_rfl) (fun _ => by kernel_rfl) ?_
        refine T.pure (.bool (r3.2 != r5.2)) (by kernel_rfl) (fun _ => by kernel_rfl) ?_
        refine T.pure (.bool (r3.2 != r5.2)) (by kernel_rfl) (fun _ => by kernel_rfl) ?_
        refine T.nil ?_
        exact fun a w' hf hh => And.intro ((((((((((Fr.nil hf).pick hf 91 rfl).pick hf 19 rfl).pick hf 16 rfl).pick hf 6 rfl).pick hf 4 rfl).pick hf 3 rfl).pick hf 2 rfl).pick hf 1 rfl).pick hf 0 rfl) (hh.sub List.Sublist.slnil)
       ·
        skip
        refine T.pass (by kernel_rfl) (by kernel_rfl) ?_
        refine T.pass (by kernel_rfl) (by kernel_rfl) ?_
        refine T.pass (by kernel_rfl) (by kernel_rfl) ?_
        refine T.pure (.bool true) (by kernel_rfl) (fun _ => by kernel_rfl) ?_
        refine T.nil ?_
        exact fun a w' hf hh => And.intro ((((((((((Fr.nil hf).pick hf 91 rfl).pick hf 19 rfl).pick hf 16 rfl).pick hf 6 rfl).pick hf 4 rfl).pick hf 3 rfl).pick hf 2 rfl).pick hf 1 rfl).pick hf 0 rfl) (hh.sub List.Sublist.slnil)
      ·
       rintro a w' ⟨hf, hh⟩
       refine (?_ : T 119 w V6 [] [(0, .slice A1 p0.length c1), (1, .int .i64 p1), (2, .int .i64 p2), (3, .string p3), (4, .string p4), (6, .int .i64 p6), (16, .int .i64 r3.2), (19, .int .i64 r3.1), (91, .bool ((r3.1 != r5.1) || (r3.2 != r5.2)))] _) a w' hf hh
       clear hf hh
       refine T.cond ((r3.1 != r5.1) || (r3.2 != r5.2)) (by kernel_rfl) (by kernel_rfl) (fun hc4 => ?_) (fun hc4 => ?_)
       ·
        rw [hc4, cond_true] at hX1
        refine T.seq ?_
        refine T.region ?_
        refine T.pure (.bool false) (by kernel_rfl) (fun _ => by kernel_rfl) ?_
        refine T.nil ?_
        cases hX1
        try dsimp only at hF
        cases hF
        refine T.ret rfl ?_
        exact T.ret1 rfl (ResIs.tmp rfl) fun w' hh => ⟨_, rfl, hh.below, (show _ from rfl)⟩
       ·
        rw [hc4, cond_false] at hX1
        refine T.skip_code ?_
        cases hX1
        exact fun a w' hf hh => And.intro rfl (Exists.intro V6 (And.intro (View.le_trans hV5 hV6) (And.intro (((((((((Fr.nil hf).pick hf 19 rfl).pick hf 16 rfl).pick hf 6 rfl).pick hf 4 rfl).pick hf 3 rfl).pick hf 2 rfl).pick hf 1 rfl).pick hf 0 rfl) (hh.sub List.Sublist.slnil))))
     ·
      rw [hc3, cond_false] at hX1
      refine T.skip_code ?_
      cases hX1
      exact fun a w' hf hh => And.intro rfl (Exists.intro V5 (And.intro hV5 (And.intro (((((((((Fr.nil hf).pick hf 19 rfl).pick hf 16 rfl).pick hf 6 rfl).pick hf 4 rfl).pick hf 3 rfl).pick hf 2 rfl).pick hf 1 rfl).pick hf 0 rfl) (hh.sub List.Sublist.slnil))))
    ·
     rintro a w' ⟨rfl, V4, hV4, hf, hh⟩
     try dsimp only at hF
     refine (?_ : T 119 w V4 [] [(0, .slice A1 p0.length c1), (1, .int .i64 p1), (2, .int .i64 p2), (3, .string p3), (4, .string p4), (6, .int .i64 p6), (16, .int .i64 r3.2), (19, .int .i64 r3.1)] _) a w' hf hh
     clear hf hh
     obtain ⟨q2, hX2, hF⟩ := Option.bind_eq_some_iff.1 hF
     refine T.cut (fun a w' => q2 = Sum.inl () ∧ ∃ (V7 : View), View.le V4 V7 ∧ Fr 119 [] a ∧ Hp w V7 [] w') ?_ ?_
     ·
      refine T.seq ?_
      refine T.region ?_
      refine T.pure (.slice A1 p0.length c1) (by kernel_rfl) (fun _ => by kernel_rfl) ?_
      refine T.pure (.int .i64 p1) (by kernel_rfl) (fun _ => by kernel_rfl) ?_
      refine T.pure (.int .i64 p2) (by kernel_rfl) (fun _ => by kernel_rfl) ?_
      refine T.pure (.string p3) (by kernel_rfl) (fun _ => by kernel_rfl) ?_
      refine T.pure (.int .i64 p6) (by kernel_rfl) (fun _ => by kernel_rfl) ?_
      obtain ⟨r6, hb6, hX2⟩ := Option.bind_eq_some_iff.1 hX2
      refine T.step (W1.call (vT2 (vSc (eList eElem)) (vSc eInt)) r6 10 #[.slice A1 p0.length c1, .int .i64 p1, .int .i64 p2, .string p3, .int .i64 p6] (by kernel_rfl) (fun _ => by kernel_rfl) (fun w' hh => dir_Drop_l F p0 p1 p2 p3 p6 r6 hb6 w' (Glob.mono hGl (View.le_trans hh.base hh.view)) A1 c1 (SlOk.mono (SlOk.mono hs1 (View.le_trans (View.le_trans (View.le_trans hV1 hV2) hV3) hV4)) hh.view)) ?_)
      intro u V8 hV8 hu
      obtain ⟨u7, u8, rfl, hu7, hu8⟩ := vT2_elim hu
      obtain ⟨A5, c5, rfl, hs5⟩ := vlist_elim hu7
      obtain rfl := sureInt _ _ _ hu8
      refine T.pure (.tuple #[.slice A5 r6.1.length c5, .int .i64 r6.2]) (by kernel_rfl) (fun _ => by kernel_rfl) ?_
      refine T.pure (.slice A5 r6.1.length c5) (by kernel_rfl) (fun _ => by kernel_rfl) ?_
      refine T.pure (.int .i64 r6.2) (by kernel_rfl) (fun _ => by kernel_rfl) ?_
      refine T.pure (.slice A5 r6.1.length c5) (by kernel_rfl) (fun _ => by kernel_rfl) ?_
      refine T.pure (.int .i64 r6.2) (by kernel_rfl) (fun _ => by kernel_rfl) ?_
      refine T.nil ?_
      refine T.seq ?_
      refine T.region ?_
      refine T.pure (.int .i64 r6.2) (by kernel_rfl) (fun _ => by kernel_rfl) ?_
      refine T.pure (.bool (r6.2 == 0)) (by kernel_rfl) (fun _ => by kernel_rfl) ?_
      refine T.nil ?_
      refine T.cond (r6.2 == 0) (by kernel_rfl) (by kernel_rfl) (fun hc5 => ?_) (fun hc5 => ?_)
      ·
       rw [hc5, cond_true] at hX2
       refine T.seq ?_
       refine T.region ?_
       refine T.pure (.slice A5 r6.1.length c5) (by kernel_rfl) (fun _ => by kernel_rfl) ?_
       refine T.pure (.int .i64 p1) (by kernel_rfl) (fun _ => by kernel_rfl) ?_
       refine T.pure (.int .i64 p2) (by kernel_rfl) (fun _ => by kernel_rfl) ?_
       refine T.pure (.string p4) (by kernel_rfl) (fun _ => by kernel_rfl) ?_
       obtain ⟨r7, hb7, hX2⟩ := Option.bind_eq_some_iff.1 hX2
       refine T.step (W1.call (vT2 (vSc eInt) (vSc eInt)) r7 11 #[.slice A5 r6.1.length c5, .int .i64 p1, .int .i64 p2, .string p4, .int .i64 2147483647] (by kernel_rfl) (fun _ => by kernel_rfl) (fun w' hh => dir_Find_l F r6.1 p1 p2 p4 2147483647 r7 hb7 w' (Glob.mono hGl (View.le_trans hh.base hh.view)) A5 c5 (SlOk.mono (SlOk.mono hs5 (View.le_trans (made_le _ _) (View.le_refl _))) hh.view)) ?_)
       intro u V9 hV9 hu
       obtain rfl := (Sure.t2 sureInt sureInt) _ _ _ hu
       refine T.pure (.tuple #[.int .i64 r7.1, .int .i64 r7.2]) (by kernel_rfl) (fun _ => by kernel_rfl) ?_
       refine T.pure (.int .i64 r7.1) (by kernel_rfl) (fun _ => by kernel_rfl) ?_
       refine T.pure (.int .i64 r7.2) (by kernel_rfl) (fun _ => by kernel_rfl) ?_
       refine T.pure (.int .i64 r7.1) (by kernel_rfl) (fun _ => by kernel_rfl) ?_
       refine T.pure (.int .i64 r7.2) (by kernel_rfl) (fun _ => by kernel_rfl) ?_
       refine T.nil ?_
       refine T.cut (fun a w' => Fr 119 [(118, .bool ((r3.1 != r7.1) || (r3.2 != r7.2)))] a ∧ Hp w V9 [] w') ?_ ?_
       ·
        refine T.region ?_
        refine T.pure (.int .i64 r3.1) (by kernel_rfl) (fun _ => by kernel_rfl) ?_
        refine T.pure (.int .i64 r7.1) (by kernel_rfl) (fun _ => by kernel_rfl) ?_
        refine T.pure (.bool (r3.1 != r7.1)) (by kernel_rfl) (fun _ => by kernel_rfl) ?_
        refine T.pure (.bool (r3.1 != r7.1)) (by kernel_rfl) (fun _ => by kernel_rfl) ?_
        cases hg5 : (r3.1 != r7.1)
        ·
         skip
         refine T.pure (.int .i64 r3.2) (by kernel_rfl) (fun _ => by kernel_rfl) ?_
         refine T.pure (.int .i64 r7.2) (by kernel_rfl) (fun _ => by kernel_rfl) ?_
         refine T.pure (.bool (r3.2 != r7.2)) (by kernel_rfl) (fun _ => by kernel_rfl) ?_
         refine T.pure (.bool (r3.2 != r7.2)) (by kernel_rfl) (fun _ => by kernel_rfl) ?_
         refine T.nil ?_
         exact fun a w' hf hh => And.intro ((Fr.nil hf).pick hf 118 rfl) (hh.sub List.Sublist.slnil)
        ·
         skip
         refine T.pass (by kernel_rfl) (by kernel_rfl) ?_
         refine T.pass (by kernel_rfl) (by kernel_rfl) ?_
         refine T.pass (by kernel_rfl) (by kernel_rfl) ?_
         refine T.pure (.bool true) (by kernel_rfl) (fun _ => by kernel_rfl) ?_
         refine T.nil ?_
         exact fun a w' hf hh => And.intro ((Fr.nil hf).pick hf 118 rfl) (hh.sub List.Sublist.slnil)
       ·
        rintro a w' ⟨hf, hh⟩
        refine (?_ : T 119 w V9 [] [(118, .bool ((r3.1 != r7.1) || (r3.2 != r7.2)))] _) a w' hf hh
        clear hf hh
        refine T.cond ((r3.1 != r7.1) || (r3.2 != r7.2)) (by kernel_rfl) (by kernel_rfl) (fun hc6 => ?_) (fun hc6 => ?_)
        ·
         rw [hc6, cond_true] at hX2
         refine T.seq ?_
         refine T.region ?_
         refine T.pure (.bool false) (by kernel_rfl) (fun _ => by kernel_rfl) ?_
         refine T.nil ?_
         cases hX2
         try dsimp only at hF
         cases hF
         refine T.ret rfl ?_
         exact T.ret1 rfl (ResIs.tmp rfl) fun w' hh => ⟨_, rfl, hh.below, (show _ from rfl)⟩
        ·
         rw [hc6, cond_false] at hX2
         refine T.skip_code ?_
         cases hX2
         exact fun a w' hf hh => And.intro rfl (Exists.intro V9 (And.intro (View.le_trans hV8 hV9) (And.intro (Fr.nil hf) (hh.sub List.Sublist.slnil))))
      ·
       rw [hc5, cond_false] at hX2
       refine T.skip_code ?_
       cases hX2
       exact fun a w' hf hh => And.intro rfl (Exists.intro V8 (And.intro hV8 (And.intro (Fr.nil hf) (hh.sub List.Sublist.slnil))))
     ·
      rintro a w' ⟨rfl, V7, hV7, hf, hh⟩
      try dsimp only at hF
      refine (?_ : T 119 w V7 [] [] _) a w' hf hh
      clear hf hh
      refine T.seq ?_
      refine T.region ?_
      refine T.pure (.bool true) (by kernel_rfl) (fun _ => by kernel_rfl) ?_
      refine T.nil ?_
      cases hF
      refine T.ret rfl ?_
      exact T.ret1 rfl (ResIs.tmp rfl) fun w' hh => ⟨_, rfl, hh.below, (show _ from rfl)⟩

end Go.Proofs.YtaccejbajgmdnaaDoor
