/- The Go functions of group WDirMany compute the pure functions of that group: written by walkgen.py. Condition of each: the pure function yields a result. -/
import Derived.Test.YtaccejbajgmdnaaDoorLstL
import Derived.Test.YtaccejbajgmdnaaDoorStrsL
import Derived.Test.YtaccejbajgmdnaaDoorSortS
import Derived.Test.YtaccejbajgmdnaaDoorWDirManyF
import Derived.Test.YtaccejbajgmdnaaDoorEqL
namespace Go.Proofs.YtaccejbajgmdnaaDoor
set_option linter.unusedVariables false

set_option maxRecDepth 100000 in
set_option maxHeartbeats 4000000 in
theorem annalkeep_DirMany_l (F : Nat) (p0 : (List ByteArray)) (p1 : Int) (r : Bool) (hF : annalkeep_DirMany F p0 p1 = some r) (w : World) (hGl : Glob w) (A1 : Option Addr) (c1 : Nat) (hs1 : SlOk (vw w) eStr A1 c1 p0) :
    Calls Tryd.prog 7 #[.slice A1 p0.length c1, .int .i64 p1] w (Post (vSc eBool) r w) := by
 unfold annalkeep_DirMany at hF
 refine T.start (l := [.slice A1 p0.length c1, .int .i64 p1]) Tryd.func7 rfl rfl rfl ?_
 refine T.seq ?_
 refine T.region ?_
 refine T.pure (.bool false) (by kernel_rfl) (fun _ => by kernel_rfl) ?_
 refine T.nil ?_
 refine T.seq ?_
 refine T.region ?_
 obtain ⟨r1, hb1, hF⟩ := Option.bind_eq_some_iff.1 hF
 refine T.step (W1.call (vT2 (vSc (eList eElem)) (vSc eInt)) r1 9 #[.slice none 0 0, .int .i64 0, .int .i64 1, .string (ByteArray.mk #[97, 98]), .int .i64 7, .int .i64 1] (by kernel_rfl) (fun _ => by kernel_rfl) (fun w' hh => dir_Add_l F ([] : List DElem) 0 1 (ByteArray.mk #[97, 98]) 7 1 r1 hb1 w' (Glob.mono hGl (View.le_trans hh.base hh.view)) none 0 (SlOk.nil _ _)) ?_)
 intro u V1 hV1 hu
 obtain ⟨u1, u2, rfl, hu1, hu2⟩ := vT2_elim hu
 obtain ⟨A2, c2, rfl, hs2⟩ := vlist_elim hu1
 obtain rfl := sureInt _ _ _ hu2
 refine T.pure (.tuple #[.slice A2 r1.1.length c2, .int .i64 r1.2]) (by kernel_rfl) (fun _ => by kernel_rfl) ?_
 refine T.pure (.slice A2 r1.1.length c2) (by kernel_rfl) (fun _ => by kernel_rfl) ?_
 refine T.pure (.int .i64 r1.2) (by kernel_rfl) (fun _ => by kernel_rfl) ?_
 refine T.pure (.slice A2 r1.1.length c2) (by kernel_rfl) (fun _ => by kernel_rfl) ?_
 refine T.pure (.int .i64 r1.2) (by kernel_rfl) (fun _ => by kernel_rfl) ?_
 refine T.nil ?_
 refine T.seq ?_
 refine T.seq ?_
 refine T.region ?_
 refine T.pure (.slice A2 r1.1.length c2) (by kernel_rfl) (fun _ => by kernel_rfl) ?_
 obtain ⟨r2, hb2, hF⟩ := Option.bind_eq_some_iff.1 hF
 refine T.step (W1.call (vT2 (vSc (eList eStr)) (vSc eInt)) r2 19 #[.slice A2 r1.1.length c2, .int .i64 0, .int .i64 1, .int .i64 1] (by kernel_rfl) (fun _ => by kernel_rfl) (fun w' hh => dir_List_l F r1.1 0 1 1 r2 hb2 w' (Glob.mono hGl (View.le_trans hh.base hh.view)) A2 c2 (SlOk.mono (SlOk.mono hs2 (View.le_trans (made_le _ _) (View.le_refl _))) hh.view)) ?_)
 intro u V2 hV2 hu
 obtain ⟨u3, u4, rfl, hu3, hu4⟩ := vT2_elim hu
 obtain ⟨A3, c3, rfl, hs3⟩ := vlist_elim hu3
 obtain rfl := sureInt _ _ _ hu4
 refine T.pure (.tuple #[.slice A3 r2.1.length c3, .int .i64 r2.2]) (by kernel_rfl) (fun _ => by kernel_rfl) ?_
 refine T.pure (.slice A3 r2.1.length c3) (by kernel_rfl) (fun _ => by kernel_rfl) ?_
 refine T.pure (.int .i64 r2.2) (by kernel_rfl) (fun _ => by kernel_rfl) ?_
 refine T.pure (.slice A3 r2.1.length c3) (by kernel_rfl) (fun _ => by kernel_rfl) ?_
 refine T.pure (.int .i64 r2.2) (by kernel_rfl) (fun _ => by kernel_rfl) ?_
 refine T.nil ?_
 obtain ⟨z1, hX1, hF⟩ := Option.bind_eq_some_iff.1 hF
 refine T.cut (fun a w' => ∃ (V3 : View), View.le V2 V3 ∧ Fr 117 [(0, .slice A1 p0.length c1), (1, .int .i64 p1), (38, .bool z1)] a ∧ Hp w V3 [] w') ?_ ?_
 ·
  refine T.region ?_
  refine T.pure (.int .i64 r1.2) (by kernel_rfl) (fun _ => by kernel_rfl) ?_
  refine T.pure (.bool (r1.2 != 0)) (by kernel_rfl) (fun _ => by kernel_rfl) ?_
  refine T.pure (.bool (r1.2 != 0)) (by kernel_rfl) (fun _ => by kernel_rfl) ?_
  cases hg1 : (r1.2 != 0)
  ·
   skip
   rw [hg1, cond_false] at hX1
   refine T.pure (.int .i64 r2.2) (by kernel_rfl) (fun _ => by kernel_rfl) ?_
   refine T.pure (.bool (r2.2 != 0)) (by kernel_rfl) (fun _ => by kernel_rfl) ?_
   refine T.pure (.bool (r2.2 != 0)) (by kernel_rfl) (fun _ => by kernel_rfl) ?_
   refine T.pure (.bool (r2.2 != 0)) (by kernel_rfl) (fun _ => by kernel_rfl) ?_
   cases hg2 : (r2.2 != 0)
   ·
    skip
    rw [hg2, cond_false] at hX1
    refine T.pure (.slice A3 r2.1.length c3) (by kernel_rfl) (fun _ => by kernel_rfl) ?_
    refine T.step (W1.new 9 [.string (ByteArray.mk #[97, 98])] (fun b => .slice (some ⟨b, 0, none⟩) 1 1) (by kernel_rfl) (fun _ => by kernel_rfl) (fun b1 => ?_))
    obtain ⟨r3, hb3, hX1⟩ := Option.bind_eq_some_iff.1 hX1
    refine T.step (W1.call (vSc eBool) r3 20 #[.slice A3 r2.1.length c3, .slice (some ⟨b1, 0, none⟩) 1 1] (by kernel_rfl) (fun _ => by kernel_rfl) (fun w' hh => slices_Equal_string_l F r2.1 [(ByteArray.mk #[97, 98])] r3 hb3 w' A3 c3 (SlOk.mono (SlOk.mono hs3 (View.le_trans (made_le _ _) (View.le_refl _))) hh.view) (some ⟨b1, 0, none⟩) 1 (slok_lit (E := eStr) (f := (fun x => [.string x])) [(ByteArray.mk #[97, 98])] (fun _ _ => rfl) (Nat.le_of_ble_eq_true (by rfl)) (fun j => hh.cellBox (i := 0) (by rfl) j))) ?_)
    intro u V4 hV4 hu
    obtain rfl := sureBool _ _ _ hu
    refine T.pure (.bool (!r3)) (by kernel_rfl) (fun _ => by kernel_rfl) ?_
    refine T.pure (.bool (!r3)) (by kernel_rfl) (fun _ => by kernel_rfl) ?_
    refine T.nil ?_
    cases hX1
    exact fun a w' hf hh => Exists.intro V4 (And.intro hV4 (And.intro ((((Fr.nil hf).pick hf 38 rfl).pick hf 1 rfl).pick hf 0 rfl) (hh.sub (.cons _ List.Sublist.slnil))))
   ·
    skip
    rw [hg2, cond_true] at hX1
    refine T.pass (by kernel_rfl) (by kernel_rfl) ?_
    refine T.pass (by kernel_rfl) (by kernel_rfl) ?_
    refine T.pass (by kernel_rfl) (by kernel_rfl) ?_
    refine T.pass (by kernel_rfl) (by kernel_rfl) ?_
    refine T.pure (.bool true) (by kernel_rfl) (fun _ => by kernel_rfl) ?_
    refine T.nil ?_
    cases hX1
    exact fun a w' hf hh => Exists.intro V2 (And.intro (View.le_refl _) (And.intro ((((Fr.nil hf).pick hf 38 rfl).pick hf 1 rfl).pick hf 0 rfl) (hh.sub List.Sublist.slnil)))
  ·
   skip
   rw [hg1, cond_true] at hX1
   refine T.pass (by kernel_rfl) (by kernel_rfl) ?_
   refine T.pass (by kernel_rfl) (by kernel_rfl) ?_
   refine T.pure (.bool true) (by kernel_rfl) (fun _ => by kernel_rfl) ?_
   refine T.pure (.bool true) (by kernel_rfl) (fun _ => by kernel_rfl) ?_
   refine T.pass (by kernel_rfl) (by kernel_rfl) ?_
   refine T.pass (by kernel_rfl) (by kernel_rfl) ?_
   refine T.pass (by kernel_rfl) (by kernel_rfl) ?_
   refine T.pass (by kernel_rfl) (by kernel_rfl) ?_
   refine T.pure (.bool true) (by kernel_rfl) (fun _ => by kernel_rfl) ?_
   refine T.nil ?_
   cases hX1
   exact fun a w' hf hh => Exists.intro V2 (And.intro (View.le_refl _) (And.intro ((((Fr.nil hf).pick hf 38 rfl).pick hf 1 rfl).pick hf 0 rfl) (hh.sub List.Sublist.slnil)))
 ·
  rintro a w' ⟨V3, hV3, hf, hh⟩
  refine (?_ : T 117 w V3 [] [(0, .slice A1 p0.length c1), (1, .int .i64 p1), (38, .bool z1)] _) a w' hf hh
  clear hf hh
  refine T.cond z1 (by kernel_rfl) (by kernel_rfl) (fun hc1 => ?_) (fun hc1 => ?_)
  ·
   rw [hc1, cond_true] at hF
   refine T.seq ?_
   refine T.region ?_
   refine T.pure (.bool false) (by kernel_rfl) (fun _ => by kernel_rfl) ?_
   refine T.nil ?_
   cases hF
   refine T.ret rfl ?_
   exact T.ret1 rfl (ResIs.tmp rfl) fun w' hh => ⟨_, rfl, hh.below, (show _ from rfl)⟩
  ·
   rw [hc1, cond_false] at hF
   refine T.skip_code ?_
   refine T.seq ?_
   refine T.region ?_
   refine T.pure (.int .i64 p1) (by kernel_rfl) (fun _ => by kernel_rfl) ?_
   obtain ⟨r4, hb4, hF⟩ := Option.bind_eq_some_iff.1 hF
   refine T.step (W1.call (vSc eInt) r4 17 #[.int .i64 p1, .int .i64 100] (by kernel_rfl) (fun _ => by kernel_rfl) (fun w' hh => annalkeep_Within_l p1 100 r4 hb4 w' ) ?_)
   intro u V5 hV5 hu
   obtain rfl := sureInt _ _ _ hu
   refine T.pure (.int .i64 r4) (by kernel_rfl) (fun _ => by kernel_rfl) ?_
   refine T.nil ?_
   refine T.seq ?_
   refine T.region ?_
   refine T.pure (.slice none 0 0) (by kernel_rfl) (fun _ => by kernel_rfl) ?_
   refine T.nil ?_
   refine T.seq ?_
   refine T.region ?_
   refine T.pure (.slice none 0 0) (by kernel_rfl) (fun _ => by kernel_rfl) ?_
   refine T.nil ?_
   refine T.seq ?_
   refine T.seq ?_
   refine T.region ?_
   refine T.pure (.slice A1 p0.length c1) (by kernel_rfl) (fun _ => by kernel_rfl) ?_
   refine T.pure (.slice A1 p0.length c1) (by kernel_rfl) (fun _ => by kernel_rfl) ?_
   refine T.pure (.int .i64 (p0.length : Int)) (by kernel_rfl) (fun _ => by kernel_rfl) ?_
   refine T.pure (.int .i64 (if (30 : Int) < (p0.length : Int) then 30 else (p0.length : Int))) (by kernel_rfl) (fun _ => by kernel_rfl) ?_
   obtain ⟨s1, hb5, hF⟩ := Option.bind_eq_some_iff.1 hF
   refine T.look (.slice A1 s1.length c1) (by kernel_rfl) (fun w' hh => exec_slice_list0 (e := 9) (s := 1) (lx := none) (hx := (some _)) (k := .i64) (k' := .i64) rfl rfl (by kernel_rfl) (by kernel_rfl) ((SlOk.mono hs1 (View.le_trans (View.le_trans (View.le_trans hV1 hV2) hV3) hV5))).1 rfl rfl hb5) ?_
   refine T.pure (.int .i64 (s1.length : Int)) (by kernel_rfl) (fun _ => by kernel_rfl) ?_
   refine T.pure (.int .i64 0) (by kernel_rfl) (fun _ => by kernel_rfl) ?_
   refine T.nil ?_
   refine T.rownil 9 eStr ?_
   obtain ⟨q1, hz1, hF⟩ := Option.bind_eq_some_iff.1 hF
   refine T.mid (fun a w' => ∃ (z2 : List ByteArray) (z3 : List DElem), q1 = Sum.inl (z2, z3) ∧ ∃ (A7 : Option Addr) (c7 : Nat) (A8 : Option Addr) (c8 : Nat) (V7 : View), View.le V5 V7 ∧ SlOk (made w V7) eElem A8 c8 z3 ∧ Fr 117 [(1, .int .i64 r4), (9, .slice A8 z3.length c8), (10, .slice A7 z2.length c7)] a ∧ Hp w V7 [row 9 eStr A7 c7 z2] w') ?_ ?_
   ·
    refine T.block ?_
    refine T.iter (fun s2 a w' => ∃ (x1 : List ByteArray) (x2 : List DElem) (x3 : Int), s2 = (x1, x2, x3) ∧ ∃ (A4 : Option Addr) (c4 : Nat) (A5 : Option Addr) (c5 : Nat) (A6 : Option Addr) (c6 : Nat) (V6 : View), View.le V5 V6 ∧ SlOk (made w V6) eElem A5 c5 x2 ∧ SlOk V6 eStr A6 c6 s1 ∧ Fr 117 [(1, .int .i64 r4), (9, .slice A5 x2.length c5), (10, .slice A4 x1.length c4), (45, .slice A6 s1.length c6), (46, .int .i64 (s1.length : Int)), (47, .int .i64 x3)] a ∧ Hp w V6 [row 9 eStr A4 c4 x1] w') hz1 ?_ ?_
    ·
     exact fun a w' hf hh => Exists.intro [] (Exists.intro [] (Exists.intro 0 (And.intro rfl (Exists.intro none (Exists.intro 0 (Exists.intro none (Exists.intro 0 (Exists.intro A1 (Exists.intro c1 (Exists.intro V5 (And.intro (View.le_refl _) (And.intro (SlOk.nil _ _) (And.intro (SlOk.cut0 (SlOk.mono hs1 (View.le_trans (View.le_trans (View.le_trans hV1 hV2) hV3) hV5)) hb5) (And.intro (((((((Fr.nil hf).pick hf 47 rfl).pick hf 46 rfl).pick hf 45 rfl).pick hf 10 rfl).pick hf 9 rfl).pick hf 1 rfl) (hh.sub (.cons_cons _ List.Sublist.slnil))))))))))))))))
    ·
     rintro s2 y1 hY1 hr1 a w' ⟨x1, x2, x3, rfl, A4, c4, A5, c5, A6, c6, V6, hV6, hs4, hs5, hf, hh⟩
     refine (?_ : T 117 w V6 [row 9 eStr A4 c4 x1] [(1, .int .i64 r4), (9, .slice A5 x2.length c5), (10, .slice A4 x1.length c4), (45, .slice A6 s1.length c6), (46, .int .i64 (s1.length : Int)), (47, .int .i64 x3)] _) a w' hf hh
     clear hf hh
     try dsimp only at hY1
     refine T.seq ?_
     refine T.region ?_
     refine T.pure (.bool (decide (x3 < (s1.length : Int)))) (by kernel_rfl) (fun _ => by kernel_rfl) ?_
     refine T.nil ?_
     refine T.seq ?_
     refine T.cond (decide (x3 < (s1.length : Int))) (by kernel_rfl) (by kernel_rfl) (fun hc2 => ?_) (fun hc2 => ?_)
     ·
      rw [hc2, cond_true] at hY1
      refine T.skip_code ?_
      obtain ⟨q2, hX2, hY1⟩ := Option.bind_eq_some_iff.1 hY1
      refine T.cut (fun a w' => ∃ (z4 : List ByteArray) (z5 : List DElem), q2 = Sum.inl (z4, z5) ∧ ∃ (A9 : Option Addr) (c9 : Nat) (A10 : Option Addr) (c10 : Nat) (V8 : View), View.le V6 V8 ∧ SlOk (made w V8) eElem A10 c10 z5 ∧ Fr 117 [(1, .int .i64 r4), (9, .slice A10 z5.length c10), (10, .slice A9 z4.length c9), (45, .slice A6 s1.length c6), (46, .int .i64 (s1.length : Int)), (47, .int .i64 x3)] a ∧ Hp w V8 [row 9 eStr A9 c9 z4] w') ?_ ?_
      ·
       refine T.block ?_
       refine T.seq ?_
       refine T.region ?_
       refine T.pure (.int .i64 x3) (by kernel_rfl) (fun _ => by kernel_rfl) ?_
       obtain ⟨e1, hb6, hX2⟩ := Option.bind_eq_some_iff.1 hX2
       obtain ⟨hi1, hi2, hi3⟩ := idx_some hb6
       refine T.look (.pointer (some ((sadr A6).add (x3.toNat * 1)))) (by kernel_rfl) (fun w' hh => exec_indexAddr (e := 9) (s := 1) rfl rfl rfl (by kernel_rfl) (by kernel_rfl) hi1 hi2 (hs5.some_ hi3 (by decide))) ?_
       refine T.look (.string e1) (by kernel_rfl) (fun w' hh => exec_load1 rfl rfl (by kernel_rfl) (hh.cell_view (SlOk.cellF0 (E := eStr) hs5 hi3 (fun _ _ _ h => h) rfl))) ?_
       refine T.pure (.int .i64 x3) (by kernel_rfl) (fun _ => by kernel_rfl) ?_
       refine T.pure (.string e1) (by kernel_rfl) (fun _ => by kernel_rfl) ?_
       refine T.nil ?_
       refine T.seq ?_
       refine T.region ?_
       refine T.pure (.slice A5 x2.length c5) (by kernel_rfl) (fun _ => by kernel_rfl) ?_
       refine T.pure (.int .i64 r4) (by kernel_rfl) (fun _ => by kernel_rfl) ?_
       refine T.pure (.string e1) (by kernel_rfl) (fun _ => by kernel_rfl) ?_
       refine T.pure (.int .i64 x3) (by kernel_rfl) (fun _ => by kernel_rfl) ?_
       refine T.pure (.int .i64 x3) (by kernel_rfl) (fun _ => by kernel_rfl) ?_
       refine T.pure (.int .i64 (IntKind.i64.wrap (x3 + 1))) (by kernel_rfl) (fun _ => by kernel_rfl) ?_
       obtain ⟨r6, hb7, hX2⟩ := Option.bind_eq_some_iff.1 hX2
       refine T.step (W1.call (vT2 (vSc (eList eElem)) (vSc eInt)) r6 9 #[.slice A5 x2.length c5, .int .i64 0, .int .i64 r4, .string e1, .int .i64 x3, .int .i64 (IntKind.i64.wrap (x3 + 1))] (by kernel_rfl) (fun _ => by kernel_rfl) (fun w' hh => dir_Add_l F x2 0 r4 e1 x3 (IntKind.i64.wrap (x3 + 1)) r6 hb7 w' (Glob.mono hGl (View.le_trans hh.base hh.view)) A5 c5 (SlOk.mono (SlOk.mono hs4 (View.le_trans (made_le _ _) (View.le_refl _))) hh.view)) ?_)
       intro u V9 hV9 hu
       obtain ⟨u5, u6, rfl, hu5, hu6⟩ := vT2_elim hu
       obtain ⟨A11, c11, rfl, hs8⟩ := vlist_elim hu5
       obtain rfl := sureInt _ _ _ hu6
       refine T.pure (.tuple #[.slice A11 r6.1.length c11, .int .i64 r6.2]) (by kernel_rfl) (fun _ => by kernel_rfl) ?_
       refine T.pure (.slice A11 r6.1.length c11) (by kernel_rfl) (fun _ => by kernel_rfl) ?_
       refine T.pure (.int .i64 r6.2) (by kernel_rfl) (fun _ => by kernel_rfl) ?_
       refine T.pure (.slice A11 r6.1.length c11) (by kernel_rfl) (fun _ => by kernel_rfl) ?_
       refine T.pure (.int .i64 r6.2) (by kernel_rfl) (fun _ => by kernel_rfl) ?_
       refine T.nil ?_
       refine T.block ?_
       refine T.seq ?_
       refine T.region ?_
       refine T.pure (.string e1) (by kernel_rfl) (fun _ => by kernel_rfl) ?_
       obtain ⟨r7, hb8, hX2⟩ := Option.bind_eq_some_iff.1 hX2
       refine T.step (W1.call (vSc eBool) r7 21 #[.string e1] (by kernel_rfl) (fun _ => by kernel_rfl) (fun w' hh => dir_Name_l F e1 r7 hb8 w' ) ?_)
       intro u V10 hV10 hu
       obtain rfl := sureBool _ _ _ hu
       refine T.pure (.bool (!r7)) (by kernel_rfl) (fun _ => by kernel_rfl) ?_
       refine T.pure (.bool (!r7)) (by kernel_rfl) (fun _ => by kernel_rfl) ?_
       refine T.nil ?_
       refine T.cond (!r7) (by kernel_rfl) (by kernel_rfl) (fun hc3 => ?_) (fun hc3 => ?_)
       ·
        rw [hc3, cond_true] at hX2
        refine T.seq ?_
        refine T.region ?_
        refine T.pure (.int .i64 r6.2) (by kernel_rfl) (fun _ => by kernel_rfl) ?_
        refine T.pure (.bool (r6.2 != 3)) (by kernel_rfl) (fun _ => by kernel_rfl) ?_
        refine T.nil ?_
        refine T.cond (r6.2 != 3) (by kernel_rfl) (by kernel_rfl) (fun hc4 => ?_) (fun hc4 => ?_)
        ·
         rw [hc4, cond_true] at hX2
         refine T.seq ?_
         refine T.region ?_
         refine T.pure (.bool false) (by kernel_rfl) (fun _ => by kernel_rfl) ?_
         refine T.nil ?_
         cases hX2
         try dsimp only at hY1
         cases hY1
         cases (hr1 _ rfl)
         try dsimp only at hF
         cases hF
         refine T.ret rfl ?_
         exact T.ret1 rfl (ResIs.tmp rfl) fun w' hh => ⟨_, rfl, hh.below, (show _ from rfl)⟩
        ·
         rw [hc4, cond_false] at hX2
         refine T.skip_code ?_
         cases hX2
         exact fun a w' hf hh => Exists.intro x1 (Exists.intro x2 (And.intro rfl (Exists.intro A4 (Exists.intro c4 (Exists.intro A5 (Exists.intro c5 (Exists.intro V10 (And.intro (View.le_trans hV9 hV10) (And.intro (SlOk.mono hs4 (made_mono (View.le_trans hV9 hV10))) (And.intro (((((((Fr.nil hf).pick hf 47 rfl).pick hf 46 rfl).pick hf 45 rfl).pick hf 10 rfl).pick hf 9 rfl).pick hf 1 rfl) (hh.sub (.cons_cons _ List.Sublist.slnil))))))))))))
       ·
        rw [hc3, cond_false] at hX2
        refine T.seq ?_
        refine T.region ?_
        refine T.pure (.slice A4 x1.length c4) (by kernel_rfl) (fun _ => by kernel_rfl) ?_
        refine T.pure (.string e1) (by kernel_rfl) (fun _ => by kernel_rfl) ?_
        obtain ⟨r8, hb9, hX2⟩ := Option.bind_eq_some_iff.1 hX2
        refine T.step (W1.call (vSc eBool) r8 22 #[.slice A4 x1.length c4, .string e1] (by kernel_rfl) (fun _ => by kernel_rfl) (fun w' hh => slices_Contains_string_l F x1 e1 r8 hb9 w' A4 c4 (hh.row_slOk (i := 0) (by rfl))) ?_)
        intro u V11 hV11 hu
        obtain rfl := sureBool _ _ _ hu
        refine T.pure (.bool r8) (by kernel_rfl) (fun _ => by kernel_rfl) ?_
        refine T.nil ?_
        refine T.cond r8 (by kernel_rfl) (by kernel_rfl) (fun hc5 => ?_) (fun hc5 => ?_)
        ·
         rw [hc5, cond_true] at hX2
         refine T.seq ?_
         refine T.region ?_
         refine T.pure (.int .i64 r6.2) (by kernel_rfl) (fun _ => by kernel_rfl) ?_
         refine T.pure (.bool (r6.2 != 5)) (by kernel_rfl) (fun _ => by kernel_rfl) ?_
         refine T.nil ?_
         refine T.cond (r6.2 != 5) (by kernel_rfl) (by kernel_rfl) (fun hc6 => ?_) (fun hc6 => ?_)
         ·
          rw [hc6, cond_true] at hX2
          refine T.seq ?_
          refine T.region ?_
          refine T.pure (.bool false) (by kernel_rfl) (fun _ => by kernel_rfl) ?_
          refine T.nil ?_
          cases hX2
          try dsimp only at hY1
          cases hY1
          cases (hr1 _ rfl)
          try dsimp only at hF
          cases hF
          refine T.ret rfl ?_
          exact T.ret1 rfl (ResIs.tmp rfl) fun w' hh => ⟨_, rfl, hh.below, (show _ from rfl)⟩
         ·
          rw [hc6, cond_false] at hX2
          refine T.skip_code ?_
          cases hX2
          exact fun a w' hf hh => Exists.intro x1 (Exists.intro x2 (And.intro rfl (Exists.intro A4 (Exists.intro c4 (Exists.intro A5 (Exists.intro c5 (Exists.intro V11 (And.intro (View.le_trans (View.le_trans hV9 hV10) hV11) (And.intro (SlOk.mono hs4 (made_mono (View.le_trans (View.le_trans hV9 hV10) hV11))) (And.intro (((((((Fr.nil hf).pick hf 47 rfl).pick hf 46 rfl).pick hf 45 rfl).pick hf 10 rfl).pick hf 9 rfl).pick hf 1 rfl) (hh.sub (.cons_cons _ List.Sublist.slnil))))))))))))
        ·
         rw [hc5, cond_false] at hX2
         refine T.seq ?_
         refine T.region ?_
         refine T.pure (.int .i64 r6.2) (by kernel_rfl) (fun _ => by kernel_rfl) ?_
         refine T.pure (.bool (r6.2 == 0)) (by kernel_rfl) (fun _ => by kernel_rfl) ?_
         refine T.pure (.bool (r6.2 == 0)) (by kernel_rfl) (fun _ => by kernel_rfl) ?_
         refine T.nil ?_
         refine T.cond (r6.2 == 0) (by kernel_rfl) (by kernel_rfl) (fun hc7 => ?_) (fun hc7 => ?_)
         ·
          rw [hc7, cond_true] at hX2
          refine T.seq ?_
          refine T.region ?_
          refine T.pure (.slice A11 r6.1.length c11) (by kernel_rfl) (fun _ => by kernel_rfl) ?_
          refine T.pure (.slice A4 x1.length c4) (by kernel_rfl) (fun _ => by kernel_rfl) ?_
          refine T.pure (.string e1) (by kernel_rfl) (fun _ => by kernel_rfl) ?_
          refine T.step (W1.new 9 [.string e1] (fun b => .slice (some ⟨b, 0, none⟩) 1 1) (by kernel_rfl) (fun _ => by kernel_rfl) (fun b2 => ?_))
          obtain ⟨y2, hb10, hX2⟩ := Option.bind_eq_some_iff.1 hX2
          obtain ⟨hb10_r, hb10_m, rfl⟩ := grow_some hb10
          obtain ⟨ti, hti, hz1, hz2, hz3⟩ := info_parts (P := Tryd.prog) (e := 9) (z := .string (ByteArray.mk #[])) (size := 1) (bytes := 16) (by kernel_rfl)
          refine T.step (W1.append (E := eStr) (l := x1) (m := [e1]) 1 _ _ 16 ti _ (by rfl) (by kernel_rfl) rfl (by kernel_rfl) hti hz1 hz2 hz3 rfl (by decide) rfl rfl (fun w' hh => (SlOk.srcF (slok_lit (E := eStr) (f := (fun x => [.string x])) [e1] (fun _ _ => rfl) (Nat.le_of_ble_eq_true (by rfl)) (fun j => hh.cellBox (i := 0) (by rfl) j)) (fun _ _ _ _ h => h))) hb10_r hb10_m (fun A12 c12 => ?_))
          refine T.pure (.slice A11 r6.1.length c11) (by kernel_rfl) (fun _ => by kernel_rfl) ?_
          refine T.pure (.slice A12 ((x1 ++ [e1]).length) c12) (by kernel_rfl) (fun _ => by kernel_rfl) ?_
          refine T.nil ?_
          refine T.seq ?_
          refine T.region ?_
          refine T.pure (.slice A11 r6.1.length c11) (by kernel_rfl) (fun _ => by kernel_rfl) ?_
          refine T.pure (.int .i64 r4) (by kernel_rfl) (fun _ => by kernel_rfl) ?_
          refine T.pure (.string e1) (by kernel_rfl) (fun _ => by kernel_rfl) ?_
          refine T.pure (.int .i64 x3) (by kernel_rfl) (fun _ => by kernel_rfl) ?_
          refine T.pure (.int .i64 (IntKind.i64.wrap (x3 + 1))) (by kernel_rfl) (fun _ => by kernel_rfl) ?_
          obtain ⟨r9, hb11, hX2⟩ := Option.bind_eq_some_iff.1 hX2
          refine T.step (W1.call (vT2 (vSc eInt) (vSc eInt)) r9 11 #[.slice A11 r6.1.length c11, .int .i64 0, .int .i64 r4, .string e1, .int .i64 (IntKind.i64.wrap (x3 + 1))] (by kernel_rfl) (fun _ => by kernel_rfl) (fun w' hh => dir_Find_l F r6.1 0 r4 e1 (IntKind.i64.wrap (x3 + 1)) r9 hb11 w' (Glob.mono hGl (View.le_trans hh.base hh.view)) A11 c11 (SlOk.mono (SlOk.mono hs8 (View.le_trans (made_le _ _) (View.le_trans hV10 hV11))) hh.view)) ?_)
          intro u V12 hV12 hu
          obtain rfl := (Sure.t2 sureInt sureInt) _ _ _ hu
          refine T.pure (.tuple #[.int .i64 r9.1, .int .i64 r9.2]) (by kernel_rfl) (fun _ => by kernel_rfl) ?_
          refine T.pure (.int .i64 r9.1) (by kernel_rfl) (fun _ => by kernel_rfl) ?_
          refine T.pure (.int .i64 r9.2) (by kernel_rfl) (fun _ => by kernel_rfl) ?_
          refine T.pure (.int .i64 r9.1) (by kernel_rfl) (fun _ => by kernel_rfl) ?_
          refine T.pure (.int .i64 r9.2) (by kernel_rfl) (fun _ => by kernel_rfl) ?_
          refine T.nil ?_
          refine T.cut (fun a w' => Fr 117 [(1, .int .i64 r4), (9, .slice A11 r6.1.length c11), (10, .slice A12 ((x1 ++ [e1]).length) c12), (45, .slice A6 s1.length c6), (46, .int .i64 (s1.length : Int)), (47, .int .i64 x3), (97, .bool ((r9.2 != 0) || (r9.1 != x3)))] a ∧ Hp w V12 [row 9 eStr A12 c12 (x1 ++ [e1])] w') ?_ ?_
          ·
           refine T.region ?_
           refine T.pure (.int .i64 r9.2) (by kernel_rfl) (fun _ => by kernel_rfl) ?_
           refine T.pure (.bool (r9.2 != 0)) (by kernel_rfl) (fun _ => by kernel_rfl) ?_
           refine T.pure (.bool (r9.2 != 0)) (by kernel_rfl) (fun _ => by kernel_rfl) ?_
           cases hg3 : (r9.2 != 0)
           ·
            skip
            refine T.pure (.int .i64 r9.1) (by kernel_rfl) (fun _ => by kernel_rfl) ?_
            refine T.pure (.int .i64 x3) (by kernel_rfl) (fun _ => by kernel_rfl) ?_
            refine T.pure (.bool (r9.1 != x3)) (by kernel_rfl) (fun _ => by kernel_rfl) ?_
            refine T.pure (.bool (r9.1 != x3)) (by kernel_rfl) (fun _ => by kernel_rfl) ?_
            refine T.nil ?_
            exact fun a w' hf hh => And.intro ((((((((Fr.nil hf).pick hf 97 rfl).pick hf 47 rfl).pick hf 46 rfl).pick hf 45 rfl).pick hf 10 rfl).pick hf 9 rfl).pick hf 1 rfl) (hh.sub (.cons _ (.cons_cons _ List.Sublist.slnil)))
           ·
            skip
            refine T.pass (by kernel_rfl) (by kernel_rfl) ?_
            refine T.pass (by kernel_rfl) (by kernel_rfl) ?_
            refine T.pass (by kernel_rfl) (by kernel_rfl) ?_
            refine T.pure (.bool true) (by kernel_rfl) (fun _ => by kernel_rfl) ?_
            refine T.nil ?_
            exact fun a w' hf hh => And.intro ((((((((Fr.nil hf).pick hf 97 rfl).pick hf 47 rfl).pick hf 46 rfl).pick hf 45 rfl).pick hf 10 rfl).pick hf 9 rfl).pick hf 1 rfl) (hh.sub (.cons _ (.cons_cons _ List.Sublist.slnil)))
          ·
           rintro a w' ⟨hf, hh⟩
           refine (?_ : T 117 w V12 [row 9 eStr A12 c12 (x1 ++ [e1])] [(1, .int .i64 r4), (9, .slice A11 r6.1.length c11), (10, .slice A12 ((x1 ++ [e1]).length) c12), (45, .slice A6 s1.length c6), (46, .int .i64 (s1.length : Int)), (47, .int .i64 x3), (97, .bool ((r9.2 != 0) || (r9.1 != x3)))] _) a w' hf hh
           clear hf hh
           refine T.cond ((r9.2 != 0) || (r9.1 != x3)) (by kernel_rfl) (by kernel_rfl) (fun hc8 => ?_) (fun hc8 => ?_)
           ·
            rw [hc8, cond_true] at hX2
            refine T.seq ?_
            refine T.region ?_
            refine T.pure (.bool false) (by kernel_rfl) (fun _ => by kernel_rfl) ?_
            refine T.nil ?_
            cases hX2
            try dsimp only at hY1
            cases hY1
            cases (hr1 _ rfl)
            try dsimp only at hF
            cases hF
            refine T.ret rfl ?_
            exact T.ret1 rfl (ResIs.tmp rfl) fun w' hh => ⟨_, rfl, hh.below, (show _ from rfl)⟩
           ·
            rw [hc8, cond_false] at hX2
            refine T.skip_code ?_
            cases hX2
            exact fun a w' hf hh => Exists.intro (x1 ++ [e1]) (Exists.intro r6.1 (And.intro rfl (Exists.intro A12 (Exists.intro c12 (Exists.intro A11 (Exists.intro c11 (Exists.intro V12 (And.intro (View.le_trans (View.le_trans (View.le_trans hV9 hV10) hV11) hV12) (And.intro (SlOk.mono hs8 (made_mono (View.le_trans (View.le_trans hV10 hV11) hV12))) (And.intro (((((((Fr.nil hf).pick hf 47 rfl).pick hf 46 rfl).pick hf 45 rfl).pick hf 10 rfl).pick hf 9 rfl).pick hf 1 rfl) (hh.sub (.cons_cons _ List.Sublist.slnil))))))))))))
         ·
          rw [hc7, cond_false] at hX2
          refine T.seq ?_
          refine T.region ?_
          refine T.pure (.int .i64 r6.2) (by kernel_rfl) (fun _ => by kernel_rfl) ?_
          refine T.pure (.bool (r6.2 != 8)) (by kernel_rfl) (fun _ => by kernel_rfl) ?_
          refine T.pure (.bool (r6.2 != 8)) (by kernel_rfl) (fun _ => by kernel_rfl) ?_
          refine T.nil ?_
          refine T.cond (r6.2 != 8) (by kernel_rfl) (by kernel_rfl) (fun hc9 => ?_) (fun hc9 => ?_)
          ·
           rw [hc9, cond_true] at hX2
           refine T.seq ?_
           refine T.region ?_
           refine T.pure (.bool false) (by kernel_rfl) (fun _ => by kernel_rfl) ?_
           refine T.nil ?_
           cases hX2
           try dsimp only at hY1
           cases hY1
           cases (hr1 _ rfl)
           try dsimp only at hF
           cases hF
           refine T.ret rfl ?_
           exact T.ret1 rfl (ResIs.tmp rfl) fun w' hh => ⟨_, rfl, hh.below, (show _ from rfl)⟩
          ·
           rw [hc9, cond_false] at hX2
           refine T.skip_code ?_
           cases hX2
           exact fun a w' hf hh => Exists.intro x1 (Exists.intro x2 (And.intro rfl (Exists.intro A4 (Exists.intro c4 (Exists.intro A5 (Exists.intro c5 (Exists.intro V11 (And.intro (View.le_trans (View.le_trans hV9 hV10) hV11) (And.intro (SlOk.mono hs4 (made_mono (View.le_trans (View.le_trans hV9 hV10) hV11))) (And.intro (((((((Fr.nil hf).pick hf 47 rfl).pick hf 46 rfl).pick hf 45 rfl).pick hf 10 rfl).pick hf 9 rfl).pick hf 1 rfl) (hh.sub (.cons_cons _ List.Sublist.slnil))))))))))))
      ·
       rintro a w' ⟨z4, z5, rfl, A9, c9, A10, c10, V8, hV8, hs7, hf, hh⟩
       try dsimp only at hY1
       refine (?_ : T 117 w V8 [row 9 eStr A9 c9 z4] [(1, .int .i64 r4), (9, .slice A10 z5.length c10), (10, .slice A9 z4.length c9), (45, .slice A6 s1.length c6), (46, .int .i64 (s1.length : Int)), (47, .int .i64 x3)] _) a w' hf hh
       clear hf hh
       refine T.region ?_
       refine T.pure (.int .i64 (IntKind.i64.wrap (x3 + 1))) (by kernel_rfl) (fun _ => by kernel_rfl) ?_
       refine T.pure (.int .i64 (IntKind.i64.wrap (x3 + 1))) (by kernel_rfl) (fun _ => by kernel_rfl) ?_
       refine T.nil ?_
       cases hY1
       exact fun a w' hf hh => Exists.intro (z4, z5, IntKind.i64.wrap (x3 + 1)) (And.intro rfl (Exists.intro z4 (Exists.intro z5 (Exists.intro (IntKind.i64.wrap (x3 + 1)) (And.intro rfl (Exists.intro A9 (Exists.intro c9 (Exists.intro A10 (Exists.intro c10 (Exists.intro A6 (Exists.intro c6 (Exists.intro V8 (And.intro (View.le_trans hV6 hV8) (And.intro (SlOk.mono hs7 (made_mono (View.le_refl _))) (And.intro (SlOk.mono hs5 hV8) (And.intro (((((((Fr.nil hf).pick hf 47 rfl).pick hf 46 rfl).pick hf 45 rfl).pick hf 10 rfl).pick hf 9 rfl).pick hf 1 rfl) (hh.sub (.cons_cons _ List.Sublist.slnil))))))))))))))))))
     ·
      rw [hc2, cond_false] at hY1
      refine T.exit ?_
      cases hY1
      cases (hr1 _ rfl)
      exact fun a w' hf hh => Exists.intro x1 (Exists.intro x2 (And.intro rfl (Exists.intro A4 (Exists.intro c4 (Exists.intro A5 (Exists.intro c5 (Exists.intro V6 (And.intro hV6 (And.intro (SlOk.mono hs4 (made_mono (View.le_refl _))) (And.intro ((((Fr.nil hf).pick hf 10 rfl).pick hf 9 rfl).pick hf 1 rfl) (hh.sub (.cons_cons _ List.Sublist.slnil))))))))))))
   ·
    rintro a w' ⟨z2, z3, rfl, A7, c7, A8, c8, V7, hV7, hs6, hf, hh⟩
    try dsimp only at hF
    refine (?_ : T 117 w V7 [row 9 eStr A7 c7 z2] [(1, .int .i64 r4), (9, .slice A8 z3.length c8), (10, .slice A7 z2.length c7)] _) a w' hf hh
    clear hf hh
    refine T.seq ?_
    refine T.region ?_
    refine T.pure (.slice A8 z3.length c8) (by kernel_rfl) (fun _ => by kernel_rfl) ?_
    refine T.pure (.int .i64 r4) (by kernel_rfl) (fun _ => by kernel_rfl) ?_
    obtain ⟨r10, hb12, hF⟩ := Option.bind_eq_some_iff.1 hF
    refine T.step (W1.call (vT2 (vSc (eList eStr)) (vSc eInt)) r10 19 #[.slice A8 z3.length c8, .int .i64 0, .int .i64 r4, .int .i64 2147483647] (by kernel_rfl) (fun _ => by kernel_rfl) (fun w' hh => dir_List_l F z3 0 r4 2147483647 r10 hb12 w' (Glob.mono hGl (View.le_trans hh.base hh.view)) A8 c8 (SlOk.mono (SlOk.mono hs6 (View.le_trans (made_le _ _) (View.le_refl _))) hh.view)) ?_)
    intro u V13 hV13 hu
    obtain ⟨u7, u8, rfl, hu7, hu8⟩ := vT2_elim hu
    obtain ⟨A13, c13, rfl, hs9⟩ := vlist_elim hu7
    obtain rfl := sureInt _ _ _ hu8
    refine T.pure (.tuple #[.slice A13 r10.1.length c13, .int .i64 r10.2]) (by kernel_rfl) (fun _ => by kernel_rfl) ?_
    refine T.pure (.slice A13 r10.1.length c13) (by kernel_rfl) (fun _ => by kernel_rfl) ?_
    refine T.pure (.int .i64 r10.2) (by kernel_rfl) (fun _ => by kernel_rfl) ?_
    refine T.pure (.slice A13 r10.1.length c13) (by kernel_rfl) (fun _ => by kernel_rfl) ?_
    refine T.pure (.int .i64 r10.2) (by kernel_rfl) (fun _ => by kernel_rfl) ?_
    refine T.nil ?_
    refine T.seq ?_
    refine T.region ?_
    refine T.pure (.slice A7 z2.length c7) (by kernel_rfl) (fun _ => by kernel_rfl) ?_
    obtain ⟨y3, hb13, hF⟩ := Option.bind_eq_some_iff.1 hF
    obtain ⟨hy1, rfl⟩ := ssortO_some hb13
    refine T.step (W1.callI 23 [.slice A7 z2.length c7] (fun v w' => v = .tuple #[] ∧ Hp w V13 [row 9 eStr A7 c7 (ssort z2)] w') (by kernel_rfl) (fun _ => by kernel_rfl) (fun w' hh => (own_sort_str hy1 (hh.perm (List.Perm.refl _))).mono (by rintro e_ w_ ⟨rfl, h_⟩; exact ⟨_, rfl, rfl, h_⟩)) ?_)
    rintro v w' ⟨rfl, hh⟩
    refine ⟨V13, [row 9 eStr A7 c7 (ssort z2)], hh.perm (List.Perm.refl _), ?_⟩
    clear hh
    have hl1 : (ssort z2).length = z2.length := (by exact ssort_length _)
    refine T.reslot 10 (.slice A7 ((ssort z2).length) c7) rfl (by simp only [hl1]) ?_
    refine T.reslot 108 (.slice A7 ((ssort z2).length) c7) rfl (by simp only [hl1]) ?_
    refine T.nil ?_
    obtain ⟨z6, hX3, hF⟩ := Option.bind_eq_some_iff.1 hF
    refine T.cut (fun a w' => ∃ (V14 : View), View.le V13 V14 ∧ Fr 117 [(4, .bool z6)] a ∧ Hp w V14 [] w') ?_ ?_
    ·
     refine T.region ?_
     refine T.pure (.int .i64 r10.2) (by kernel_rfl) (fun _ => by kernel_rfl) ?_
     refine T.pure (.bool (r10.2 == 0)) (by kernel_rfl) (fun _ => by kernel_rfl) ?_
     refine T.pure (.bool (r10.2 == 0)) (by kernel_rfl) (fun _ => by kernel_rfl) ?_
     cases hg4 : (r10.2 == 0)
     ·
      skip
      rw [hg4, cond_false] at hX3
      refine T.pass (by kernel_rfl) (by kernel_rfl) ?_
      refine T.pass (by kernel_rfl) (by kernel_rfl) ?_
      refine T.pass (by kernel_rfl) (by kernel_rfl) ?_
      refine T.pure (.bool false) (by kernel_rfl) (fun _ => by kernel_rfl) ?_
      refine T.pure (.bool false) (by kernel_rfl) (fun _ => by kernel_rfl) ?_
      refine T.nil ?_
      cases hX3
      exact fun a w' hf hh => Exists.intro V13 (And.intro (View.le_refl _) (And.intro ((Fr.nil hf).pick hf 4 rfl) (hh.sub (.cons _ List.Sublist.slnil))))
     ·
      skip
      rw [hg4, cond_true] at hX3
      refine T.pure (.slice A13 r10.1.length c13) (by kernel_rfl) (fun _ => by kernel_rfl) ?_
      refine T.pure (.slice A7 ((ssort z2).length) c7) (by kernel_rfl) (fun _ => by kernel_rfl) ?_
      obtain ⟨r11, hb14, hX3⟩ := Option.bind_eq_some_iff.1 hX3
      refine T.step (W1.call (vSc eBool) r11 20 #[.slice A13 r10.1.length c13, .slice A7 ((ssort z2).length) c7] (by kernel_rfl) (fun _ => by kernel_rfl) (fun w' hh => slices_Equal_string_l F r10.1 (ssort z2) r11 hb14 w' A13 c13 (SlOk.mono (SlOk.mono hs9 (View.le_trans (made_le _ _) (View.le_refl _))) hh.view) A7 c7 (hh.row_slOk (i := 0) (by rfl))) ?_)
      intro u V15 hV15 hu
      obtain rfl := sureBool _ _ _ hu
      refine T.pure (.bool r11) (by kernel_rfl) (fun _ => by kernel_rfl) ?_
      refine T.pure (.bool r11) (by kernel_rfl) (fun _ => by kernel_rfl) ?_
      refine T.nil ?_
      cases hX3
      exact fun a w' hf hh => Exists.intro V15 (And.intro hV15 (And.intro ((Fr.nil hf).pick hf 4 rfl) (hh.sub (.cons _ List.Sublist.slnil))))
    ·
     rintro a w' ⟨V14, hV14, hf, hh⟩
     refine (?_ : T 117 w V14 [] [(4, .bool z6)] _) a w' hf hh
     clear hf hh
     cases hF
     refine T.ret rfl ?_
     exact T.ret1 rfl (ResIs.tmp rfl) fun w' hh => ⟨_, rfl, hh.below, (show _ from rfl)⟩

end Go.Proofs.YtaccejbajgmdnaaDoor
