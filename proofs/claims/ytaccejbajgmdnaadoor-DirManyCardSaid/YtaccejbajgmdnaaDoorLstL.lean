/- The Go functions of group Lst compute the pure functions of that group: written by walkgen.py. Condition of each: the pure function yields a result. -/
import Derived.Test.YtaccejbajgmdnaaDoorDirL
import Derived.Test.YtaccejbajgmdnaaDoorSortS
import Derived.Test.YtaccejbajgmdnaaDoorLstF
import Derived.Test.YtaccejbajgmdnaaDoorEqL
namespace Go.Proofs.YtaccejbajgmdnaaDoor
set_option linter.unusedVariables false

set_option maxRecDepth 100000 in
set_option maxHeartbeats 4000000 in
theorem dir_List_l (F : Nat) (p0 : (List DElem)) (p1 : Int) (p2 : Int) (p3 : Int) (r : ((List ByteArray)) × Int) (hF : dir_List F p0 p1 p2 p3 = some r) (w : World) (hGl : Glob w) (A1 : Option Addr) (c1 : Nat) (hs1 : SlOk (vw w) eElem A1 c1 p0) :
    Calls Tryd.prog 19 #[.slice A1 p0.length c1, .int .i64 p1, .int .i64 p2, .int .i64 p3] w (Post (vT2 (vSc (eList eStr)) (vSc eInt)) r w) := by
 unfold dir_List at hF
 refine T.start (l := [.slice A1 p0.length c1, .int .i64 p1, .int .i64 p2, .int .i64 p3]) Tryd.func19 rfl rfl rfl ?_
 refine T.seq ?_
 refine T.region ?_
 refine T.pure (.slice none 0 0) (by kernel_rfl) (fun _ => by kernel_rfl) ?_
 refine T.pure (.int .i64 0) (by kernel_rfl) (fun _ => by kernel_rfl) ?_
 refine T.nil ?_
 refine T.seq ?_
 refine T.seq ?_
 refine T.region ?_
 refine T.pure (.slice A1 p0.length c1) (by kernel_rfl) (fun _ => by kernel_rfl) ?_
 refine T.pure (.int .i64 p1) (by kernel_rfl) (fun _ => by kernel_rfl) ?_
 refine T.pure (.int .i64 p2) (by kernel_rfl) (fun _ => by kernel_rfl) ?_
 obtain ⟨r1, hb1, hF⟩ := Option.bind_eq_some_iff.1 hF
 refine T.step (W1.call (vSc eInt) r1 25 #[.slice A1 p0.length c1, .int .i64 p1, .int .i64 p2] (by kernel_rfl) (fun _ => by kernel_rfl) (fun w' hh => dir_look_l F p0 p1 p2 r1 hb1 w' A1 c1 (SlOk.mono hs1 hh.view)) ?_)
 intro u V1 hV1 hu
 obtain rfl := sureInt _ _ _ hu
 refine T.pure (.int .i64 r1) (by kernel_rfl) (fun _ => by kernel_rfl) ?_
 refine T.nil ?_
 refine T.seq ?_
 refine T.region ?_
 refine T.pure (.int .i64 r1) (by kernel_rfl) (fun _ => by kernel_rfl) ?_
 refine T.pure (.bool (r1 != 0)) (by kernel_rfl) (fun _ => by kernel_rfl) ?_
 refine T.nil ?_
 refine T.cond (r1 != 0) (by kernel_rfl) (by kernel_rfl) (fun hc1 => ?_) (fun hc1 => ?_)
 ·
  rw [hc1, cond_true] at hF
  refine T.seq ?_
  refine T.region ?_
  refine T.pure (.int .i64 r1) (by kernel_rfl) (fun _ => by kernel_rfl) ?_
  refine T.pure (.slice none 0 0) (by kernel_rfl) (fun _ => by kernel_rfl) ?_
  refine T.pure (.int .i64 r1) (by kernel_rfl) (fun _ => by kernel_rfl) ?_
  refine T.nil ?_
  cases hF
  refine T.ret rfl ?_
  exact T.ret2 rfl (ResIs.tmp rfl) (ResIs.tmp rfl) fun w' hh => ⟨_, rfl, hh.below, (vT2.mk ⟨_, _, rfl, (SlOk.nil _ _)⟩ (show _ from rfl))⟩
 ·
  rw [hc1, cond_false] at hF
  refine T.skip_code ?_
  refine T.seq ?_
  refine T.region ?_
  refine T.pure (.slice none 0 0) (by kernel_rfl) (fun _ => by kernel_rfl) ?_
  refine T.nil ?_
  refine T.seq ?_
  refine T.seq ?_
  refine T.region ?_
  refine T.pure (.slice A1 p0.length c1) (by kernel_rfl) (fun _ => by kernel_rfl) ?_
  refine T.pure (.int .i64 (p0.length : Int)) (by kernel_rfl) (fun _ => by kernel_rfl) ?_
  refine T.pure (.int .i64 0) (by kernel_rfl) (fun _ => by kernel_rfl) ?_
  refine T.nil ?_
  refine T.rownil 9 eStr ?_
  obtain ⟨z1, hz1, hF⟩ := Option.bind_eq_some_iff.1 hF
  refine T.mid (fun a w' => ∃ (A3 : Option Addr) (c3 : Nat) (V3 : View), View.le V1 V3 ∧ Fr 64 [(11, .slice A3 z1.length c3)] a ∧ Hp w V3 [row 9 eStr A3 c3 z1] w') ?_ ?_
  ·
   refine T.block ?_
   refine T.iter (fun s1 a w' => ∃ (x1 : List ByteArray) (x2 : Int), s1 = (x1, x2) ∧ ∃ (A2 : Option Addr) (c2 : Nat) (V2 : View), View.le V1 V2 ∧ Fr 64 [(1, .int .i64 p1), (2, .int .i64 p2), (3, .int .i64 p3), (11, .slice A2 x1.length c2), (24, .slice A1 p0.length c1), (25, .int .i64 (p0.length : Int)), (26, .int .i64 x2)] a ∧ Hp w V2 [row 9 eStr A2 c2 x1] w') hz1 ?_ ?_
   ·
    exact fun a w' hf hh => Exists.intro [] (Exists.intro 0 (And.intro rfl (Exists.intro none (Exists.intro 0 (Exists.intro V1 (And.intro (View.le_refl _) (And.intro ((((((((Fr.nil hf).pick hf 26 rfl).pick hf 25 rfl).pick hf 24 rfl).pick hf 11 rfl).pick hf 3 rfl).pick hf 2 rfl).pick hf 1 rfl) (hh.sub (.cons_cons _ List.Sublist.slnil)))))))))
   ·
    rintro s1 y1 hY1 hr1 a w' ⟨x1, x2, rfl, A2, c2, V2, hV2, hf, hh⟩
    refine (?_ : T 64 w V2 [row 9 eStr A2 c2 x1] [(1, .int .i64 p1), (2, .int .i64 p2), (3, .int .i64 p3), (11, .slice A2 x1.length c2), (24, .slice A1 p0.length c1), (25, .int .i64 (p0.length : Int)), (26, .int .i64 x2)] _) a w' hf hh
    clear hf hh
    try dsimp only at hY1
    refine T.seq ?_
    refine T.region ?_
    refine T.pure (.bool (decide (x2 < (p0.length : Int)))) (by kernel_rfl) (fun _ => by kernel_rfl) ?_
    refine T.nil ?_
    refine T.seq ?_
    refine T.cond (decide (x2 < (p0.length : Int))) (by kernel_rfl) (by kernel_rfl) (fun hc2 => ?_) (fun hc2 => ?_)
    ·
     rw [hc2, cond_true] at hY1
     refine T.skip_code ?_
     obtain ⟨z2, hX1, hY1⟩ := Option.bind_eq_some_iff.1 hY1
     refine T.cut (fun a w' => ∃ (A4 : Option Addr) (c4 : Nat) (V4 : View), View.le V2 V4 ∧ Fr 64 [(1, .int .i64 p1), (2, .int .i64 p2), (3, .int .i64 p3), (11, .slice A4 z2.length c4), (24, .slice A1 p0.length c1), (25, .int .i64 (p0.length : Int)), (26, .int .i64 x2)] a ∧ Hp w V4 [row 9 eStr A4 c4 z2] w') ?_ ?_
     ·
      refine T.block ?_
      refine T.seq ?_
      refine T.region ?_
      obtain ⟨e1, hb2, hX1⟩ := Option.bind_eq_some_iff.1 hX1
      obtain ⟨hi1, hi2, hi3⟩ := idx_some hb2
      refine T.look (.pointer (some ((sadr A1).add (x2.toNat * 6)))) (by kernel_rfl) (fun w' hh => exec_indexAddr (e := 36) (s := 6) rfl rfl rfl (by kernel_rfl) (by kernel_rfl) hi1 hi2 ((SlOk.mono hs1 (View.le_trans hV1 hV2)).some_ hi3 (by decide))) ?_
      refine T.look (.agg #[.int .i64 e1.key.pfs, .int .i64 e1.key.obj, .int .i64 e1.key.off, .int .i64 e1.made, .int .i64 e1.gone, .string e1.val]) (by kernel_rfl) (fun w' hh => exec_loadN (cs := [.int .i64 e1.key.pfs, .int .i64 e1.key.obj, .int .i64 e1.key.off, .int .i64 e1.made, .int .i64 e1.gone, .string e1.val]) rfl rfl (by kernel_rfl) (by kernel_rfl) (fun j u hj => (hh.cell_view (SlOk.cellF (E := eElem) (SlOk.mono hs1 (View.le_trans hV1 hV2)) hi3 j (fun _ _ _ h => h) hj)))) ?_
      refine T.step (W1.new 36 [.int .i64 0, .int .i64 0, .int .i64 0, .int .i64 0, .int .i64 0, .string (ByteArray.mk #[])] (fun b => .pointer (some ⟨b, 0, none⟩)) (by kernel_rfl) (fun _ => by kernel_rfl) (fun b1 => ?_))
      refine T.step (W1.store 0 [.int .i64 e1.key.pfs, .int .i64 e1.key.obj, .int .i64 e1.key.off, .int .i64 e1.made, .int .i64 e1.gone, .string e1.val] [box b1 36 [.int .i64 e1.key.pfs, .int .i64 e1.key.obj, .int .i64 e1.key.off, .int .i64 e1.made, .int .i64 e1.gone, .string e1.val], row 9 eStr A2 c2 x1] (by rfl) rfl (by kernel_rfl) (fun w' hw => exec_store (vs := [.int .i64 e1.key.pfs, .int .i64 e1.key.obj, .int .i64 e1.key.off, .int .i64 e1.made, .int .i64 e1.gone, .string e1.val]) rfl rfl rfl rfl (by kernel_rfl) (one_of rfl) (by simp) rfl hw) ?_)
      refine T.nil ?_
      refine T.seq ?_
      obtain ⟨z3, hX2, hX1⟩ := Option.bind_eq_some_iff.1 hX1
      refine T.cut (fun a w' => ∃ (V5 : View), View.le V2 V5 ∧ Fr 64 [(1, .int .i64 p1), (2, .int .i64 p2), (3, .int .i64 p3), (11, .slice A2 x1.length c2), (13, .pointer (some ⟨b1, 0, none⟩)), (24, .slice A1 p0.length c1), (25, .int .i64 (p0.length : Int)), (26, .int .i64 x2), (47, .bool z3)] a ∧ Hp w V5 [box b1 36 [.int .i64 e1.key.pfs, .int .i64 e1.key.obj, .int .i64 e1.key.off, .int .i64 e1.made, .int .i64 e1.gone, .string e1.val], row 9 eStr A2 c2 x1] w') ?_ ?_
      ·
       refine T.region ?_
       refine T.pure (.pointer (some ⟨b1, 0, none⟩)) (by kernel_rfl) (fun _ => by kernel_rfl) ?_
       refine T.pure (.pointer (some ⟨b1, 0, none⟩)) (by kernel_rfl) (fun _ => by kernel_rfl) ?_
       refine T.look (.int .i64 e1.key.pfs) (by kernel_rfl) (fun w' hh => exec_load1 rfl rfl (by kernel_rfl) (hh.cellBox (i := 0) (by rfl) 0)) ?_
       refine T.pure (.int .i64 p1) (by kernel_rfl) (fun _ => by kernel_rfl) ?_
       refine T.pure (.bool (e1.key.pfs != p1)) (by kernel_rfl) (fun _ => by kernel_rfl) ?_
       refine T.pure (.bool (e1.key.pfs != p1)) (by kernel_rfl) (fun _ => by kernel_rfl) ?_
       cases hg1 : (e1.key.pfs != p1)
       ·
        skip
        rw [hg1, cond_false] at hX2
        refine T.pure (.pointer (some ⟨b1, 0, none⟩)) (by kernel_rfl) (fun _ => by kernel_rfl) ?_
        refine T.pure (.pointer (some ⟨b1, 1, none⟩)) (by kernel_rfl) (fun _ => by kernel_rfl) ?_
        refine T.look (.int .i64 e1.key.obj) (by kernel_rfl) (fun w' hh => exec_load1 rfl rfl (by kernel_rfl) (hh.cellBox (i := 0) (by rfl) 1)) ?_
        refine T.pure (.int .i64 p2) (by kernel_rfl) (fun _ => by kernel_rfl) ?_
        refine T.pure (.bool (e1.key.obj != p2)) (by kernel_rfl) (fun _ => by kernel_rfl) ?_
        refine T.pure (.bool (e1.key.obj != p2)) (by kernel_rfl) (fun _ => by kernel_rfl) ?_
        refine T.pure (.bool (e1.key.obj != p2)) (by kernel_rfl) (fun _ => by kernel_rfl) ?_
        cases hg2 : (e1.key.obj != p2)
        ·
         skip
         rw [hg2, cond_false] at hX2
         refine T.look (.agg #[.int .i64 e1.key.pfs, .int .i64 e1.key.obj, .int .i64 e1.key.off, .int .i64 e1.made, .int .i64 e1.gone, .string e1.val]) (by kernel_rfl) (fun w' hh => exec_loadN (cs := [.int .i64 e1.key.pfs, .int .i64 e1.key.obj, .int .i64 e1.key.off, .int .i64 e1.made, .int .i64 e1.gone, .string e1.val]) rfl rfl (by kernel_rfl) (by kernel_rfl) (fun j u hj => (hh.box_at (i := 0) (cs := [.int .i64 e1.key.pfs, .int .i64 e1.key.obj, .int .i64 e1.key.off, .int .i64 e1.made, .int .i64 e1.gone, .string e1.val]) (by rfl) 0 j).trans (seg_at (n := 6) (by rfl) hj))) ?_
         refine T.pure (.int .i64 p3) (by kernel_rfl) (fun _ => by kernel_rfl) ?_
         obtain ⟨r3, hb3, hX2⟩ := Option.bind_eq_some_iff.1 hX2
         refine T.step (W1.call (vSc eBool) r3 44 #[.agg #[.int .i64 e1.key.pfs, .int .i64 e1.key.obj, .int .i64 e1.key.off, .int .i64 e1.made, .int .i64 e1.gone, .string e1.val], .int .i64 p3] (by kernel_rfl) (fun _ => by kernel_rfl) (fun w' hh => elem_Live_l e1 p3 r3 hb3 w' ) ?_)
         intro u V6 hV6 hu
         obtain rfl := sureBool _ _ _ hu
         refine T.pure (.bool (!r3)) (by kernel_rfl) (fun _ => by kernel_rfl) ?_
         refine T.pure (.bool (!r3)) (by kernel_rfl) (fun _ => by kernel_rfl) ?_
         refine T.nil ?_
         cases hX2
         exact fun a w' hf hh => Exists.intro V6 (And.intro hV6 (And.intro ((((((((((Fr.nil hf).pick hf 47 rfl).pick hf 26 rfl).pick hf 25 rfl).pick hf 24 rfl).pick hf 13 rfl).pick hf 11 rfl).pick hf 3 rfl).pick hf 2 rfl).pick hf 1 rfl) (hh.sub (.cons_cons _ (.cons_cons _ List.Sublist.slnil)))))
        ·
         skip
         rw [hg2, cond_true] at hX2
         refine T.pass (by kernel_rfl) (by kernel_rfl) ?_
         refine T.pass (by kernel_rfl) (by kernel_rfl) ?_
         refine T.pass (by kernel_rfl) (by kernel_rfl) ?_
         refine T.pass (by kernel_rfl) (by kernel_rfl) ?_
         refine T.pure (.bool true) (by kernel_rfl) (fun _ => by kernel_rfl) ?_
         refine T.nil ?_
         cases hX2
         exact fun a w' hf hh => Exists.intro V2 (And.intro (View.le_refl _) (And.intro ((((((((((Fr.nil hf).pick hf 47 rfl).pick hf 26 rfl).pick hf 25 rfl).pick hf 24 rfl).pick hf 13 rfl).pick hf 11 rfl).pick hf 3 rfl).pick hf 2 rfl).pick hf 1 rfl) (hh.sub (.cons_cons _ (.cons_cons _ List.Sublist.slnil)))))
       ·
        skip
        rw [hg1, cond_true] at hX2
        refine T.pass (by kernel_rfl) (by kernel_rfl) ?_
        refine T.pass (by kernel_rfl) (by kernel_rfl) ?_
        refine T.pass (by kernel_rfl) (by kernel_rfl) ?_
        refine T.pass (by kernel_rfl) (by kernel_rfl) ?_
        refine T.pass (by kernel_rfl) (by kernel_rfl) ?_
        refine T.pure (.bool true) (by kernel_rfl) (fun _ => by kernel_rfl) ?_
        refine T.pure (.bool true) (by kernel_rfl) (fun _ => by kernel_rfl) ?_
        refine T.pass (by kernel_rfl) (by kernel_rfl) ?_
        refine T.pass (by kernel_rfl) (by kernel_rfl) ?_
        refine T.pass (by kernel_rfl) (by kernel_rfl) ?_
        refine T.pass (by kernel_rfl) (by kernel_rfl) ?_
        refine T.pure (.bool true) (by kernel_rfl) (fun _ => by kernel_rfl) ?_
        refine T.nil ?_
        cases hX2
        exact fun a w' hf hh => Exists.intro V2 (And.intro (View.le_refl _) (And.intro ((((((((((Fr.nil hf).pick hf 47 rfl).pick hf 26 rfl).pick hf 25 rfl).pick hf 24 rfl).pick hf 13 rfl).pick hf 11 rfl).pick hf 3 rfl).pick hf 2 rfl).pick hf 1 rfl) (hh.sub (.cons_cons _ (.cons_cons _ List.Sublist.slnil)))))
      ·
       rintro a w' ⟨V5, hV5, hf, hh⟩
       refine (?_ : T 64 w V5 [box b1 36 [.int .i64 e1.key.pfs, .int .i64 e1.key.obj, .int .i64 e1.key.off, .int .i64 e1.made, .int .i64 e1.gone, .string e1.val], row 9 eStr A2 c2 x1] [(1, .int .i64 p1), (2, .int .i64 p2), (3, .int .i64 p3), (11, .slice A2 x1.length c2), (13, .pointer (some ⟨b1, 0, none⟩)), (24, .slice A1 p0.length c1), (25, .int .i64 (p0.length : Int)), (26, .int .i64 x2), (47, .bool z3)] _) a w' hf hh
       clear hf hh
       refine T.cond z3 (by kernel_rfl) (by kernel_rfl) (fun hc3 => ?_) (fun hc3 => ?_)
       ·
        rw [hc3, cond_true] at hX1
        refine T.exit ?_
        cases hX1
        exact fun a w' hf hh => Exists.intro A2 (Exists.intro c2 (Exists.intro V5 (And.intro hV5 (And.intro ((((((((Fr.nil hf).pick hf 26 rfl).pick hf 25 rfl).pick hf 24 rfl).pick hf 11 rfl).pick hf 3 rfl).pick hf 2 rfl).pick hf 1 rfl) (hh.sub (.cons _ (.cons_cons _ List.Sublist.slnil)))))))
       ·
        rw [hc3, cond_false] at hX1
        refine T.skip_code ?_
        refine T.seq ?_
        refine T.region ?_
        refine T.look (.agg #[.int .i64 e1.key.pfs, .int .i64 e1.key.obj, .int .i64 e1.key.off, .int .i64 e1.made, .int .i64 e1.gone, .string e1.val]) (by kernel_rfl) (fun w' hh => exec_loadN (cs := [.int .i64 e1.key.pfs, .int .i64 e1.key.obj, .int .i64 e1.key.off, .int .i64 e1.made, .int .i64 e1.gone, .string e1.val]) rfl rfl (by kernel_rfl) (by kernel_rfl) (fun j u hj => (hh.box_at (i := 0) (cs := [.int .i64 e1.key.pfs, .int .i64 e1.key.obj, .int .i64 e1.key.off, .int .i64 e1.made, .int .i64 e1.gone, .string e1.val]) (by rfl) 0 j).trans (seg_at (n := 6) (by rfl) hj))) ?_
        obtain ⟨r4, hb4, hX1⟩ := Option.bind_eq_some_iff.1 hX1
        refine T.step (W1.call (vT3 (vSc eStr) (vSc eInt) (vSc eBool)) r4 45 #[.agg #[.int .i64 e1.key.pfs, .int .i64 e1.key.obj, .int .i64 e1.key.off, .int .i64 e1.made, .int .i64 e1.gone, .string e1.val]] (by kernel_rfl) (fun _ => by kernel_rfl) (fun w' hh => dir_entry_l F e1 r4 hb4 w' (Glob.mono hGl (View.le_trans hh.base hh.view))) ?_)
        intro u V7 hV7 hu
        obtain rfl := (Sure.t3 sureStr sureInt sureBool) _ _ _ hu
        refine T.pure (.tuple #[.string r4.1, .int .i64 r4.2.1, .bool r4.2.2]) (by kernel_rfl) (fun _ => by kernel_rfl) ?_
        refine T.pure (.string r4.1) (by kernel_rfl) (fun _ => by kernel_rfl) ?_
        refine T.pure (.int .i64 r4.2.1) (by kernel_rfl) (fun _ => by kernel_rfl) ?_
        refine T.pure (.bool r4.2.2) (by kernel_rfl) (fun _ => by kernel_rfl) ?_
        refine T.pure (.string r4.1) (by kernel_rfl) (fun _ => by kernel_rfl) ?_
        refine T.pure (.int .i64 r4.2.1) (by kernel_rfl) (fun _ => by kernel_rfl) ?_
        refine T.pure (.bool r4.2.2) (by kernel_rfl) (fun _ => by kernel_rfl) ?_
        refine T.nil ?_
        refine T.seq ?_
        refine T.region ?_
        refine T.pure (.bool r4.2.2) (by kernel_rfl) (fun _ => by kernel_rfl) ?_
        refine T.nil ?_
        refine T.cond r4.2.2 (by kernel_rfl) (by kernel_rfl) (fun hc4 => ?_) (fun hc4 => ?_)
        ·
         rw [hc4, cond_true] at hX1
         refine T.region ?_
         refine T.pure (.slice A2 x1.length c2) (by kernel_rfl) (fun _ => by kernel_rfl) ?_
         refine T.pure (.string r4.1) (by kernel_rfl) (fun _ => by kernel_rfl) ?_
         refine T.step (W1.new 9 [.string r4.1] (fun b => .slice (some ⟨b, 0, none⟩) 1 1) (by kernel_rfl) (fun _ => by kernel_rfl) (fun b2 => ?_))
         obtain ⟨y2, hb5, hX1⟩ := Option.bind_eq_some_iff.1 hX1
         obtain ⟨hb5_r, hb5_m, rfl⟩ := grow_some hb5
         obtain ⟨ti, hti, hz1, hz2, hz3⟩ := info_parts (P := Tryd.prog) (e := 9) (z := .string (ByteArray.mk #[])) (size := 1) (bytes := 16) (by kernel_rfl)
         refine T.step (W1.append (E := eStr) (l := x1) (m := [r4.1]) 2 _ _ 16 ti _ (by rfl) (by kernel_rfl) rfl (by kernel_rfl) hti hz1 hz2 hz3 rfl (by decide) rfl rfl (fun w' hh => (SlOk.srcF (slok_lit (E := eStr) (f := (fun x => [.string x])) [r4.1] (fun _ _ => rfl) (Nat.le_of_ble_eq_true (by rfl)) (fun j => hh.cellBox (i := 0) (by rfl) j)) (fun _ _ _ _ h => h))) hb5_r hb5_m (fun A5 c5 => ?_))
         refine T.pure (.slice A5 ((x1 ++ [r4.1]).length) c5) (by kernel_rfl) (fun _ => by kernel_rfl) ?_
         refine T.nil ?_
         cases hX1
         exact fun a w' hf hh => Exists.intro A5 (Exists.intro c5 (Exists.intro V7 (And.intro (View.le_trans hV5 hV7) (And.intro ((((((((Fr.nil hf).pick hf 26 rfl).pick hf 25 rfl).pick hf 24 rfl).pick hf 11 rfl).pick hf 3 rfl).pick hf 2 rfl).pick hf 1 rfl) (hh.sub (.cons _ (.cons _ (.cons_cons _ List.Sublist.slnil))))))))
        ·
         rw [hc4, cond_false] at hX1
         refine T.skip_code ?_
         cases hX1
         exact fun a w' hf hh => Exists.intro A2 (Exists.intro c2 (Exists.intro V7 (And.intro (View.le_trans hV5 hV7) (And.intro ((((((((Fr.nil hf).pick hf 26 rfl).pick hf 25 rfl).pick hf 24 rfl).pick hf 11 rfl).pick hf 3 rfl).pick hf 2 rfl).pick hf 1 rfl) (hh.sub (.cons _ (.cons_cons _ List.Sublist.slnil)))))))
     ·
      rintro a w' ⟨A4, c4, V4, hV4, hf, hh⟩
      refine (?_ : T 64 w V4 [row 9 eStr A4 c4 z2] [(1, .int .i64 p1), (2, .int .i64 p2), (3, .int .i64 p3), (11, .slice A4 z2.length c4), (24, .slice A1 p0.length c1), (25, .int .i64 (p0.length : Int)), (26, .int .i64 x2)] _) a w' hf hh
      clear hf hh
      refine T.region ?_
      refine T.pure (.int .i64 (IntKind.i64.wrap (x2 + 1))) (by kernel_rfl) (fun _ => by kernel_rfl) ?_
      refine T.pure (.int .i64 (IntKind.i64.wrap (x2 + 1))) (by kernel_rfl) (fun _ => by kernel_rfl) ?_
      refine T.nil ?_
      cases hY1
      exact fun a w' hf hh => Exists.intro (z2, IntKind.i64.wrap (x2 + 1)) (And.intro rfl (Exists.intro z2 (Exists.intro (IntKind.i64.wrap (x2 + 1)) (And.intro rfl (Exists.intro A4 (Exists.intro c4 (Exists.intro V4 (And.intro (View.le_trans hV2 hV4) (And.intro ((((((((Fr.nil hf).pick hf 26 rfl).pick hf 25 rfl).pick hf 24 rfl).pick hf 11 rfl).pick hf 3 rfl).pick hf 2 rfl).pick hf 1 rfl) (hh.sub (.cons_cons _ List.Sublist.slnil)))))))))))
    ·
     rw [hc2, cond_false] at hY1
     refine T.exit ?_
     cases hY1
     cases (hr1 _ rfl)
     exact fun a w' hf hh => Exists.intro A2 (Exists.intro c2 (Exists.intro V2 (And.intro hV2 (And.intro ((Fr.nil hf).pick hf 11 rfl) (hh.sub (.cons_cons _ List.Sublist.slnil))))))
  ·
   rintro a w' ⟨A3, c3, V3, hV3, hf, hh⟩
   refine (?_ : T 64 w V3 [row 9 eStr A3 c3 z1] [(11, .slice A3 z1.length c3)] _) a w' hf hh
   clear hf hh
   refine T.seq ?_
   refine T.region ?_
   refine T.pure (.slice A3 z1.length c3) (by kernel_rfl) (fun _ => by kernel_rfl) ?_
   obtain ⟨y3, hb6, hF⟩ := Option.bind_eq_some_iff.1 hF
   obtain ⟨hy1, rfl⟩ := ssortO_some hb6
   refine T.step (W1.callI 23 [.slice A3 z1.length c3] (fun v w' => v = .tuple #[] ∧ Hp w V3 [row 9 eStr A3 c3 (ssort z1)] w') (by kernel_rfl) (fun _ => by kernel_rfl) (fun w' hh => (own_sort_str hy1 (hh.perm (List.Perm.refl _))).mono (by rintro e_ w_ ⟨rfl, h_⟩; exact ⟨_, rfl, rfl, h_⟩)) ?_)
   rintro v w' ⟨rfl, hh⟩
   refine ⟨V3, [row 9 eStr A3 c3 (ssort z1)], hh.perm (List.Perm.refl _), ?_⟩
   clear hh
   have hl1 : (ssort z1).length = z1.length := (by exact ssort_length _)
   refine T.reslot 11 (.slice A3 ((ssort z1).length) c3) rfl (by simp only [hl1]) ?_
   refine T.reslot 60 (.slice A3 ((ssort z1).length) c3) rfl (by simp only [hl1]) ?_
   refine T.nil ?_
   refine T.seq ?_
   refine T.region ?_
   refine T.pure (.slice A3 ((ssort z1).length) c3) (by kernel_rfl) (fun _ => by kernel_rfl) ?_
   refine T.step (W1.callI 46 [.slice A3 ((ssort z1).length) c3] (fun v w' => v = .slice A3 (scomp (ssort z1)).length c3 ∧ Hp w V3 [row 9 eStr A3 c3 (scomp (ssort z1))] w') (by kernel_rfl) (fun _ => by kernel_rfl) (fun w' hh => (own_compact_str (hh.perm (List.Perm.refl _))).mono (by rintro e_ w_ ⟨rfl, h_⟩; exact ⟨_, rfl, rfl, h_⟩)) ?_)
   rintro v w' ⟨rfl, hh⟩
   refine ⟨V3, [row 9 eStr A3 c3 (scomp (ssort z1))], hh.perm (List.Perm.refl _), ?_⟩
   clear hh
   refine T.pure (.slice A3 ((scomp (ssort z1)).length) c3) (by kernel_rfl) (fun _ => by kernel_rfl) ?_
   refine T.pure (.int .i64 0) (by kernel_rfl) (fun _ => by kernel_rfl) ?_
   refine T.nil ?_
   cases hF
   refine T.ret rfl ?_
   exact T.ret2 rfl (ResIs.tmp rfl) (ResIs.tmp rfl) fun w' hh => ⟨_, rfl, hh.below, (vT2.mk ⟨_, _, rfl, (hh.row_fresh (i := 0) (by rfl) (fun _ h => h))⟩ (show _ from rfl))⟩

end Go.Proofs.YtaccejbajgmdnaaDoor
