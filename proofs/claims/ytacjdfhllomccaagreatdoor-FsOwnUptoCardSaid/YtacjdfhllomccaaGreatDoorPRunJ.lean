/- The Go functions of group Lst compute the pure functions of that group: written by walkgen.py. Condition of each: the pure function yields a result. -/
import Derived.Test.YtacjdfhllomccaaGreatDoorSh2J
import Derived.Test.YtacjdfhllomccaaGreatDoorDirLJ
import Derived.Test.YtacjdfhllomccaaGreatDoorTreeOJ
import Derived.Test.YtacjdfhllomccaaGreatDoorSortSJ
import Derived.Test.YtacjdfhllomccaaGreatDoorLstFJ
import Derived.Test.YtacjdfhllomccaaGreatDoorEqLJ
import Derived.Test.YtacjdfhllomccaaGreatDoorFrLJ
import Derived.Test.YtacjdfhllomccaaGreatDoorOpsJ
import Derived.Test.YtacjdfhllomccaaGreatDoorInsJ
import Derived.LoopNIn
import Derived.Test.YtacjdfhllomccaaGreatDoorKeyLJ
import Derived.Test.YtacjdfhllomccaaGreatDoorKeyFJ
import Derived.Test.YtacjdfhllomccaaGreatDoorMapJ
import Derived.Test.YtacjdfhllomccaaGreatDoorFrFJ
import Derived.Test.YtacjdfhllomccaaGreatDoorLawJ
import Derived.Test.YtacjdfhllomccaaGreatDoorRunFJ
namespace Go.Proofs.YtacjdfhllomccaaGreatDoor
set_option linter.unusedVariables false
set_option maxRecDepth 100000 in
set_option maxHeartbeats 4000000 in
theorem dir_List_o_l (F : Nat) (p0 : (List DElem)) (p1 : Int) (p2 : Int) (p3 : Int) (r : ((List ByteArray)) × Int) (hF : dir_List F p0 p1 p2 p3 = some r) (w : World) (hGl : Glob w) (A1 : Option Addr) (c1 : Nat) (hs1 : SlOk (vw w) eElem A1 c1 p0) :
 Calls Tryz.prog 66 #[.slice A1 p0.length c1, .int .i64 p1, .int .i64 p2, .int .i64 p3] w (fun e w' => ∃ p : Option Addr × Nat, e = .returned (.tuple #[.slice p.1 r.1.length p.2, .int .i64 r.2]) ∧ True ∧ Gives w w' [row 9 eStr p.1 p.2 r.1]) := by
 unfold dir_List at hF
 refine T.start (l := [.slice A1 p0.length c1, vi p1, vi p2, vi p3]) Tryz.func66 rfl rfl rfl ?_
 refine T.seq (T.region (T.p2 sN (vi 0) (fun _ => by kernel_rfl) (T.nil (T.seq (T.seq (T.region (T.p3 (.slice A1 p0.length c1) (vi p1) (vi p2) (fun _ => by kernel_rfl) ?_)))))))
 obtain ⟨r1, hb1, hF⟩ := ob hF
 refine T.step (W1.call (vSc eInt) r1 90 #[.slice A1 p0.length c1, vi p1, vi p2] (by kernel_rfl) (fun _ => by kernel_rfl) (fun w' hh => dir_look_l F p0 p1 p2 r1 hb1 w' A1 c1 (SlOk.mono hs1 hh.view)) ?_)
 intro u V1 hV1 hu
 obtain rfl := sureInt _ _ _ hu
 refine T.pk (vi r1) (fun _ => by kernel_rfl) (T.nil (T.seq (T.region (T.p2 (vi r1) (.bool (r1 != 0)) (fun _ => by kernel_rfl) (T.nil ?_)))))
 refine T.cond (r1 != 0) (by kernel_rfl) (by kernel_rfl) (fun hc1 => ?_) (fun hc1 => ?_)
 ·
  rw [hc1, cond_true] at hF
  refine T.seq (T.region (T.p3 (vi r1) sN (vi r1) (fun _ => by kernel_rfl) (T.nil ?_)))
  refine T.rownil 9 eStr ?_
  cases hF
  refine T.ret rfl ?_
  first | exact T.ret2 rfl (ResIs.tmp rfl) (ResIs.tmp rfl) fun w' hh => ⟨(none, 0), rfl, trivial, gives_of (hh.sub (kp1 kp0)) ⟨flat_row (fun _ _ _ _ h => h), trivial⟩⟩ | (unfold Exit.then; dsimp only; exact T.ret2 rfl (ResIs.tmp rfl) (ResIs.tmp rfl) fun w' hh => ⟨(none, 0), rfl, trivial, gives_of (hh.sub (kp1 kp0)) ⟨flat_row (fun _ _ _ _ h => h), trivial⟩⟩)
 rw [hc1, cond_false] at hF
 refine T.skip_code ?_
 refine T.seq (T.region (T.pk sN (fun _ => by kernel_rfl) (T.nil (T.seq (T.seq (T.region (T.p3 (.slice A1 p0.length c1) (vi (p0.length : Int)) (vi 0) (fun _ => by kernel_rfl) (T.nil ?_))))))))
 refine T.rownil 9 eStr ?_
 obtain ⟨z1, hz1, hF⟩ := ob hF
 refine T.mid (fun a w' => ∃ (A3 : Option Addr) (c3 : Nat) (V3 : View), View.le V1 V3 ∧ Fr 64 [(11, .slice A3 z1.length c3)] a ∧ Hp w V3 ((row 9 eStr A3 c3 z1) :: []) w') ?_ ?_
 ·
  refine T.block ?_
  refine T.iter (fun s1 a w' => ∃ (x1 : List ByteArray) (x2 : Int), s1 = (x1, x2) ∧ ∃ (A2 : Option Addr) (c2 : Nat) (V2 : View), View.le V1 V2 ∧ Fr 64 [(1, vi p1), (2, vi p2), (3, vi p3), (11, .slice A2 x1.length c2), (24, .slice A1 p0.length c1), (25, vi (p0.length : Int)), (26, vi x2)] a ∧ Hp w V2 ((row 9 eStr A2 c2 x1) :: []) w') hz1 ?_ ?_
  ·
   exact fun a w' hf hh => ⟨[], 0, rfl, none, 0, V1, vr, (Fr.sel hf rfl), (hh.sub (kp1 kp0))⟩
  rintro s1 y1 hY1 hr1 a w' ⟨x1, x2, rfl, A2, c2, V2, hV2, hf, hh⟩
  refine (?_ : T 64 w V2 ((row 9 eStr A2 c2 x1) :: []) [(1, vi p1), (2, vi p2), (3, vi p3), (11, .slice A2 x1.length c2), (24, .slice A1 p0.length c1), (25, vi (p0.length : Int)), (26, vi x2)] _) a w' hf hh
  clear hf hh
  try dsimp only at hY1
  refine T.seq (T.region (T.pk (.bool (decide (x2 < (p0.length : Int)))) (fun _ => by kernel_rfl) (T.nil (T.seq ?_))))
  refine T.cond (decide (x2 < (p0.length : Int))) (by kernel_rfl) (by kernel_rfl) (fun hc2 => ?_) (fun hc2 => ?_)
  ·
   rw [hc2, cond_true] at hY1
   refine T.skip_code ?_
   obtain ⟨z2, hX1, hY1⟩ := ob hY1
   refine T.cut (fun a w' => ∃ (A4 : Option Addr) (c4 : Nat) (V4 : View), View.le V2 V4 ∧ Fr 64 [(1, vi p1), (2, vi p2), (3, vi p3), (11, .slice A4 z2.length c4), (24, .slice A1 p0.length c1), (25, vi (p0.length : Int)), (26, vi x2)] a ∧ Hp w V4 ((row 9 eStr A4 c4 z2) :: []) w') ?_ ?_
   ·
    refine T.block (T.seq (T.region ?_))
    obtain ⟨e1, hb2, hX1⟩ := ob hX1
    obtain ⟨hi1, hi2, hi3⟩ := idx_some hb2
    refine T.look (.pointer (some ((sadr A1).add (x2.toNat * 6)))) (by kernel_rfl) (fun w' hh => exec_indexAddr (e := 44) (s := 6) rfl rfl rfl (by kernel_rfl) (by kernel_rfl) hi1 hi2 ((SlOk.mono hs1 (vt hV1 hV2)).some_ hi3 (by decide))) ?_
    let v4_ : List Value := [vi e1.key.pfs, vi e1.key.obj, vi e1.key.off, vi e1.made, vi e1.gone, .string e1.val]
    let a5_ : Value := .agg #[vi e1.key.pfs, vi e1.key.obj, vi e1.key.off, vi e1.made, vi e1.gone, .string e1.val]
    refine T.look a5_ (by kernel_rfl) (fun w' hh => exec_loadN (cs := v4_) rfl rfl (by kernel_rfl) (by kernel_rfl) (fun j u hj => (hh.cell_view (SlOk.cellF (E := eElem) (SlOk.mono hs1 (vt hV1 hV2)) hi3 j (fun _ _ _ h => h) hj)))) ?_
    refine T.step (W1.np 44 [vi 0, vi 0, vi 0, vi 0, vi 0, .string (ByteArray.mk #[])] (fun _ => by kernel_rfl) (fun b1 => ?_))
    let i1_ : HObj := box b1 44 v4_
    let t2_ : List HObj := i1_ :: (row 9 eStr A2 c2 x1) :: []
    refine T.step (W1.st 0 v4_ t2_ v4_ (by rfl) rfl rfl rfl rfl rfl rfl (fun _ => by kernel_rfl) ?_)
    refine T.nil (T.seq ?_)
    obtain ⟨z3, hX2, hX1⟩ := ob hX1
    refine T.cut (fun a w' => ∃ (V5 : View), View.le V2 V5 ∧ Fr 64 [(1, vi p1), (2, vi p2), (3, vi p3), (11, .slice A2 x1.length c2), (13, pB b1 0), (24, .slice A1 p0.length c1), (25, vi (p0.length : Int)), (26, vi x2), (47, .bool z3)] a ∧ Hp w V5 t2_ w') ?_ ?_
    ·
     refine T.region (T.p2 (pB b1 0) (pB b1 0) (fun _ => by kernel_rfl) (T.look (vi e1.key.pfs) (by kernel_rfl) (ld1 0 rfl rfl (fun _ => by kernel_rfl) (by rfl) rfl) ?_))
     refine T.p3 (vi p1) (.bool (e1.key.pfs != p1)) (.bool (e1.key.pfs != p1)) (fun _ => by kernel_rfl) ?_
     cases hg1 : (e1.key.pfs != p1)
     ·
      skip
      rw [hg1, cond_false] at hX2
      refine T.p2 (pB b1 0) (pB b1 1) (fun _ => by kernel_rfl) (T.look (vi e1.key.obj) (by kernel_rfl) (ld1 0 rfl rfl (fun _ => by kernel_rfl) (by rfl) rfl) ?_)
      refine T.p4 (vi p2) (.bool (e1.key.obj != p2)) (.bool (e1.key.obj != p2)) (.bool (e1.key.obj != p2)) (fun _ => by kernel_rfl) ?_
      cases hg2 : (e1.key.obj != p2)
      ·
       skip
       rw [hg2, cond_false] at hX2
       refine T.look a5_ (by kernel_rfl) (ldN 0 rfl rfl (fun _ => by kernel_rfl) (by rfl) rfl) ?_
       refine T.pk (vi p3) (fun _ => by kernel_rfl) ?_
       obtain ⟨r4, hb3, hX2⟩ := ob hX2
       refine T.step (W1.call (vSc eBool) r4 63 #[a5_, vi p3] (by kernel_rfl) (fun _ => by kernel_rfl) (fun w' hh => elem_Live_l e1 p3 r4 hb3 w' ) ?_)
       intro u V6 hV6 hu
       obtain rfl := sureBool _ _ _ hu
       refine T.p2 (.bool (!r4)) (.bool (!r4)) (fun _ => by kernel_rfl) (T.nil ?_)
       cases hX2
       exact fun a w' hf hh => ⟨V6, hV6, (Fr.sel hf rfl), (hh.sub (kp1 (kp1 kp0)))⟩
      skip
      rw [hg2, cond_true] at hX2
      refine T.pass (by kernel_rfl) (by kernel_rfl) (T.pass (by kernel_rfl) (by kernel_rfl) (T.pass (by kernel_rfl) (by kernel_rfl) (T.pass (by kernel_rfl) (by kernel_rfl) (T.pk (.bool true) (fun _ => by kernel_rfl) (T.nil ?_)))))
      cases hX2
      exact fun a w' hf hh => ⟨V2, vr, (Fr.sel hf rfl), (hh.sub (kp1 (kp1 kp0)))⟩
     skip
     rw [hg1, cond_true] at hX2
     refine T.pass (by kernel_rfl) (by kernel_rfl) (T.pass (by kernel_rfl) (by kernel_rfl) (T.pass (by kernel_rfl) (by kernel_rfl) (T.pass (by kernel_rfl) (by kernel_rfl) (T.pass (by kernel_rfl) (by kernel_rfl) (T.p2 (.bool true) (.bool true) (fun _ => by kernel_rfl) (T.pass (by kernel_rfl) (by kernel_rfl) (T.pass (by kernel_rfl) (by kernel_rfl) (T.pass (by kernel_rfl) (by kernel_rfl) (T.pass (by kernel_rfl) (by kernel_rfl) (T.pk (.bool true) (fun _ => by kernel_rfl) (T.nil ?_)))))))))))
     cases hX2
     exact fun a w' hf hh => ⟨V2, vr, (Fr.sel hf rfl), (hh.sub (kp1 (kp1 kp0)))⟩
    rintro a w' ⟨V5, hV5, hf, hh⟩
    refine (?_ : T 64 w V5 t2_ [(1, vi p1), (2, vi p2), (3, vi p3), (11, .slice A2 x1.length c2), (13, pB b1 0), (24, .slice A1 p0.length c1), (25, vi (p0.length : Int)), (26, vi x2), (47, .bool z3)] _) a w' hf hh
    clear hf hh
    refine T.cond z3 (by kernel_rfl) (by kernel_rfl) (fun hc3 => ?_) (fun hc3 => ?_)
    ·
     rw [hc3, cond_true] at hX1
     refine T.exit ?_
     cases hX1
     exact fun a w' hf hh => ⟨A2, c2, V5, hV5, (Fr.sel hf rfl), (hh.sub (dr1 (kp1 kp0)))⟩
    rw [hc3, cond_false] at hX1
    refine T.skip_code ?_
    refine T.seq (T.region (T.look a5_ (by kernel_rfl) (ldN 0 rfl rfl (fun _ => by kernel_rfl) (by rfl) rfl) ?_))
    obtain ⟨r5, hb4, hX1⟩ := ob hX1
    refine T.step (W1.call (vT3 (vSc eStr) (vSc eInt) (vSc eBool)) r5 103 #[a5_] (by kernel_rfl) (fun _ => by kernel_rfl) (fun w' hh => dir_entry_l F e1 r5 hb4 w' (Glob.mono hGl (vt hh.base hh.view))) ?_)
    intro u V7 hV7 hu
    obtain rfl := (Sure.t3 sureStr sureInt sureBool) _ _ _ hu
    refine T.p7 (.tuple #[.string r5.1, vi r5.2.1, .bool r5.2.2]) (.string r5.1) (vi r5.2.1) (.bool r5.2.2) (.string r5.1) (vi r5.2.1) (.bool r5.2.2) (fun _ => by kernel_rfl) (T.nil (T.seq (T.region (T.pk (.bool r5.2.2) (fun _ => by kernel_rfl) (T.nil ?_)))))
    refine T.cond r5.2.2 (by kernel_rfl) (by kernel_rfl) (fun hc4 => ?_) (fun hc4 => ?_)
    ·
     rw [hc4, cond_true] at hX1
     refine T.region (T.p2 (.slice A2 x1.length c2) (.string r5.1) (fun _ => by kernel_rfl) (T.step (W1.ns 9 [.string r5.1] (fun _ => by kernel_rfl) (fun b2 => ?_))))
     obtain ⟨y2, hb5, hX1⟩ := ob hX1
     obtain ⟨hb5_r, hb5_m, rfl⟩ := grow_some hb5
     obtain ⟨ti, hti, hz1, hz2, hz3⟩ := info_parts (P := Tryz.prog) (e := 9) (z := .string (ByteArray.mk #[])) (size := 1) (bytes := 16) (by kernel_rfl)
     refine T.step (W1.append (E := eStr) (l := x1) (m := [r5.1]) 2 _ _ 16 ti _ (by rfl) (by kernel_rfl) rfl (by kernel_rfl) hti hz1 hz2 hz3 rfl (by decide) rfl rfl (fun w' hh => (SlOk.srcF (slok_lit (E := eStr) (f := (fun x => [.string x])) [r5.1] (fun _ _ => rfl) (Nat.le_of_ble_eq_true (by rfl)) (fun j => hh.cellBox (i := 0) (by rfl) j)) (fun _ _ _ _ h => h))) hb5_r hb5_m (fun A5 c5 => ?_))
     refine T.pk (.slice A5 ((x1 ++ [r5.1]).length) c5) (fun _ => by kernel_rfl) (T.nil ?_)
     cases hX1
     exact fun a w' hf hh => ⟨A5, c5, V7, (vt hV5 hV7), (Fr.sel hf rfl), (hh.sub (dr2 (kp1 kp0)))⟩
    rw [hc4, cond_false] at hX1
    refine T.skip_code ?_
    cases hX1
    exact fun a w' hf hh => ⟨A2, c2, V7, (vt hV5 hV7), (Fr.sel hf rfl), (hh.sub (dr1 (kp1 kp0)))⟩
   rintro a w' ⟨A4, c4, V4, hV4, hf, hh⟩
   refine (?_ : T 64 w V4 ((row 9 eStr A4 c4 z2) :: []) [(1, vi p1), (2, vi p2), (3, vi p3), (11, .slice A4 z2.length c4), (24, .slice A1 p0.length c1), (25, vi (p0.length : Int)), (26, vi x2)] _) a w' hf hh
   clear hf hh
   refine T.region (T.p2 (vi (IntKind.i64.wrap (x2 + 1))) (vi (IntKind.i64.wrap (x2 + 1))) (fun _ => by kernel_rfl) (T.nil ?_))
   cases hY1
   exact fun a w' hf hh => ⟨(z2, IntKind.i64.wrap (x2 + 1)), rfl, z2, (IntKind.i64.wrap (x2 + 1)), rfl, A4, c4, V4, (vt hV2 hV4), (Fr.sel hf rfl), (hh.sub (kp1 kp0))⟩
  rw [hc2, cond_false] at hY1
  refine T.exit ?_
  cases hY1
  cases (hr1 _ rfl)
  exact fun a w' hf hh => ⟨A2, c2, V2, hV2, (Fr.sel hf rfl), (hh.sub (kp1 kp0))⟩
 rintro a w' ⟨A3, c3, V3, hV3, hf, hh⟩
 refine (?_ : T 64 w V3 ((row 9 eStr A3 c3 z1) :: []) [(11, .slice A3 z1.length c3)] _) a w' hf hh
 clear hf hh
 refine T.seq (T.region (T.pk (.slice A3 z1.length c3) (fun _ => by kernel_rfl) ?_))
 obtain ⟨y3, hb6, hF⟩ := ob hF
 obtain ⟨hy1, rfl⟩ := ssortO_some hb6
 refine T.step (W1.callI 104 [.slice A3 z1.length c3] (fun v w' => v = .tuple #[] ∧ Hp w V3 ((row 9 eStr A3 c3 (ssort z1)) :: []) w') (by kernel_rfl) (fun _ => by kernel_rfl) (fun w' hh => (own_sort_str hy1 (hh.perm pz)).mono (by rintro e_ w_ ⟨rfl, h_⟩; exact ⟨_, rfl, rfl, h_⟩)) ?_)
 rintro v w' ⟨rfl, hh⟩
 refine ⟨V3, ((row 9 eStr A3 c3 (ssort z1)) :: []), hh.perm pz, ?_⟩
 clear hh
 have hl1 : (ssort z1).length = z1.length := (by exact ssort_length _)
 refine T.reslot 11 (.slice A3 ((ssort z1).length) c3) rfl (by simp +zetaDelta only [hl1]) ?_
 refine T.reslot 60 (.slice A3 ((ssort z1).length) c3) rfl (by simp +zetaDelta only [hl1]) ?_
 refine T.nil (T.seq (T.region (T.pk (.slice A3 ((ssort z1).length) c3) (fun _ => by kernel_rfl) ?_)))
 let i3_ : HObj := row 9 eStr A3 c3 (scomp (ssort z1))
 refine T.step (W1.callI 105 [.slice A3 ((ssort z1).length) c3] (fun v w' => v = .slice A3 (scomp (ssort z1)).length c3 ∧ Hp w V3 (i3_ :: []) w') (by kernel_rfl) (fun _ => by kernel_rfl) (fun w' hh => (own_compact_str (hh.perm pz)).mono (by rintro e_ w_ ⟨rfl, h_⟩; exact ⟨_, rfl, rfl, h_⟩)) ?_)
 rintro v w' ⟨rfl, hh⟩
 refine ⟨V3, (i3_ :: []), hh.perm pz, ?_⟩
 clear hh
 refine T.p2 (.slice A3 ((scomp (ssort z1)).length) c3) (vi 0) (fun _ => by kernel_rfl) (T.nil ?_)
 cases hF
 refine T.ret rfl ?_
 first | exact T.ret2 rfl (ResIs.tmp rfl) (ResIs.tmp rfl) fun w' hh => ⟨(A3, c3), rfl, trivial, gives_of (hh.sub (kp1 kp0)) ⟨flat_row (fun _ _ _ _ h => h), trivial⟩⟩ | (unfold Exit.then; dsimp only; exact T.ret2 rfl (ResIs.tmp rfl) (ResIs.tmp rfl) fun w' hh => ⟨(A3, c3), rfl, trivial, gives_of (hh.sub (kp1 kp0)) ⟨flat_row (fun _ _ _ _ h => h), trivial⟩⟩)
end Go.Proofs.YtacjdfhllomccaaGreatDoor
/- The listing of a file system, handed on as a list of the caller's own. Its condition: the pure function yields a result. -/
namespace Go.Proofs.YtacjdfhllomccaaGreatDoor
set_option linter.unusedVariables false
set_option maxRecDepth 100000 in
set_option maxHeartbeats 4000000 in
theorem fs_FS_List_fo_l (F : Nat) (p904 : List DElem) (p906 : Int) (p907 : Int) (p908 : ByteArray) (p909 : Int) (r : (List ByteArray) × Int) (hF : fs_FS_List_fr F p904 p906 p907 p908 p909 = some r) (w : World) (hGl : Glob w) (b901 : Nat) (A902 : Option Addr) (c903 : Nat) (V900 : View) (G900 : List HObj) (w1 : World) (hs905 : SlOk V900 eElem A902 c903 p904) (hh : Hp w V900 ((box b901 78 [.slice A902 p904.length c903, .int .i64 p906, .int .i64 p907]) :: G900) w1) :
 Calls Tryz.prog 34 #[.pointer (some ⟨b901, 0, none⟩), .string p908, .int .i64 p909] w1 (fun e w2 => ∃ v, e = .returned v ∧ ∃ (A1 : Option Addr) (c1 : Nat) (V1 : View), View.le V900 V1 ∧ v = .tuple #[.slice A1 r.1.length c1, .int .i64 r.2] ∧ Hp w V1 ((row 9 eStr A1 c1 r.1) :: (box b901 78 [.slice A902 p904.length c903, .int .i64 p906, .int .i64 p907]) :: G900) w2) := by
 unfold fs_FS_List_fr at hF
 have hV900 := hh.base
 refine T.startI (l := [pB b901 0, .string p908, vi p909]) Tryz.func34 rfl rfl rfl ?_ hh
 clear hh
 refine T.seq (T.region (T.p2 sN (vi 0) (fun _ => by kernel_rfl) (T.nil (T.seq (T.region (T.p3 (pB b901 0) (.string p908) (vi p909) (fun _ => by kernel_rfl) ?_))))))
 obtain ⟨r1, hb1, hF⟩ := ob hF
 let i1_ : HObj := box b901 78 [.slice A902 p904.length c903, vi p906, vi p907]
 refine T.step (W1.callI 58 [pB b901 0, .string p908, vi p909] (fun v w' => ∃ (V2 : View), View.le V900 V2 ∧ v = .tuple #[vi r1.1, vi r1.2] ∧ Hp w V2 (i1_ :: G900) w') (by kernel_rfl) (fun _ => by kernel_rfl) (fun w' hh => fs_FS_at_fr_l F p904 p906 p907 p908 p909 r1 hb1 w hGl b901 A902 c903 V900 G900 w' hs905 (hh.sub (kp1 kpr))) ?_)
 rintro v w' ⟨V2, hV2, rfl, hh⟩
 refine ⟨_, _, hh, ?_⟩
 clear hh
 refine T.p5 (.tuple #[vi r1.1, vi r1.2]) (vi r1.1) (vi r1.2) (vi r1.1) (vi r1.2) (fun _ => by kernel_rfl) (T.nil (T.seq (T.seq (T.region (T.p2 (vi r1.2) (.bool (r1.2 != 0)) (fun _ => by kernel_rfl) (T.nil ?_))))))
 refine T.cond (r1.2 != 0) (by kernel_rfl) (by kernel_rfl) (fun hc1 => ?_) (fun hc1 => ?_)
 ·
  rw [hc1, cond_true] at hF
  refine T.seq (T.region (T.p3 (vi r1.2) sN (vi r1.2) (fun _ => by kernel_rfl) (T.nil ?_)))
  have hres := Option.some.inj hF
  subst hres
  refine T.rownil 9 eStr ?_
  refine T.ret rfl ?_
  repeat first | refine T.unthen ?_ | refine T.unblock ?_
  exact T.ret2 rfl (ResIs.tmp rfl) (ResIs.tmp rfl) fun w' hh => ⟨_, rfl, ⟨none, 0, V2, hV2, rfl, (hh.sub (kp1 (kp1 kpr)))⟩⟩
 rw [hc1, cond_false] at hF
 refine T.skip_code ?_
 refine T.seq (T.seq (T.region (T.p3 (pB b901 0) (vi r1.1) (vi p909) (fun _ => by kernel_rfl) ?_)))
 obtain ⟨r2, hb2, hF⟩ := ob hF
 refine T.step (W1.callI 59 [pB b901 0, vi r1.1, vi p909] (fun v w' => ∃ (V3 : View), View.le V2 V3 ∧ v = .string r2 ∧ Hp w V3 (i1_ :: G900) w') (by kernel_rfl) (fun _ => by kernel_rfl) (fun w' hh => fs_FS_kind_fr_l F p904 p906 p907 r1.1 p909 r2 hb2 w hGl b901 A902 c903 V2 G900 w' (SlOk.mono hs905 hV2) (hh.sub (kp1 kpr))) ?_)
 rintro v w' ⟨V3, hV3, rfl, hh⟩
 refine ⟨_, _, hh, ?_⟩
 clear hh
 refine T.pk (.bool (!(seq r2 (ByteArray.mk #[100])))) (fun _ => by kernel_rfl) (T.nil ?_)
 refine T.cond (!(seq r2 (ByteArray.mk #[100]))) (by kernel_rfl) (by kernel_rfl) (fun hc2 => ?_) (fun hc2 => ?_)
 ·
  rw [hc2, cond_true] at hF
  refine T.seq (T.region (T.p2 sN (vi 12) (fun _ => by kernel_rfl) (T.nil ?_)))
  have hres := Option.some.inj hF
  subst hres
  refine T.rownil 9 eStr ?_
  refine T.ret rfl ?_
  repeat first | refine T.unthen ?_ | refine T.unblock ?_
  exact T.ret2 rfl (ResIs.tmp rfl) (ResIs.tmp rfl) fun w' hh => ⟨_, rfl, ⟨none, 0, V3, (vt hV2 hV3), rfl, (hh.sub (kp1 (kp1 kpr)))⟩⟩
 rw [hc2, cond_false] at hF
 refine T.skip_code ?_
 refine T.seq (T.region (T.p3 (pB b901 0) (pB b901 0) (pB b901 0) (fun _ => by kernel_rfl) (T.look (.slice A902 p904.length c903) (by kernel_rfl) (ld1 0 rfl rfl (fun _ => by kernel_rfl) (by rfl) rfl) ?_)))
 refine T.p2 (vi r1.1) (vi p909) (fun _ => by kernel_rfl) ?_
 obtain ⟨r3, hb3, hF⟩ := ob hF
 refine T.step (W1.callG 66 #[.slice A902 p904.length c903, vi 0, vi r1.1, vi p909] (fun p : Option Addr × Nat => .tuple #[.slice p.1 r3.1.length p.2, vi r3.2]) (fun p => ((row 9 eStr p.1 p.2 r3.1) :: [])) (fun _ => True) (by kernel_rfl) (fun _ => by kernel_rfl) (fun w' hh => dir_List_o_l F p904 0 r1.1 p909 r3 hb3 w' (Glob.mono hGl (vt hh.base hh.view)) A902 c903 (SlOk.mono (SlOk.mono hs905 (vt hV2 hV3)) hh.view)) ?_)
 rintro ⟨A2, c2⟩ _
 refine T.reH (H' := (row 9 eStr A2 c2 r3.1) :: i1_ :: G900) (by rfl) ?_
 refine T.p4 (.slice A2 r3.1.length c2) (vi r3.2) (.slice A2 r3.1.length c2) (vi r3.2) (fun _ => by kernel_rfl) (T.nil ?_)
 have hres := Option.some.inj hF
 subst hres
 refine T.ret rfl ?_
 repeat first | refine T.unthen ?_ | refine T.unblock ?_
 exact T.ret2 rfl (ResIs.tmp rfl) (ResIs.tmp rfl) fun w' hh => ⟨_, rfl, ⟨A2, c2, V3, (vt hV2 hV3), rfl, (hh.sub (kp1 (kp1 kpr)))⟩⟩
end Go.Proofs.YtacjdfhllomccaaGreatDoor
/- Plain Lean: loops with as much fuel as need be. Its conditions: none. -/
namespace Go.Proofs.YtacjdfhllomccaaGreatDoor
set_option linter.unusedVariables false
set_option linter.unusedSimpArgs false
theorem w64 {n : Int} (h0 : -9223372036854775808 ≤ n) (h1 : n ≤ 9223372036854775807) : IntKind.i64.wrap n = n := by
 rw [IntKind.wrap_i64]
 omega
theorem idx_nat' {α : Type} (l : List α) (k : Nat) : idx l (k : Int) = l[k]? := by
 unfold idx; rw [if_neg (by omega), Int.toNat_natCast]
theorem grow_ok {α : Type} {b : Nat} {l m : List α} (h : (l.length + m.length) * b ≤ 140737488355328) (hm : l.length + m.length ≤ 9223372036854775807) : grow b l m = some (l ++ m) := by
 unfold grow; rw [if_pos ⟨h, by unfold maxLen; omega⟩]
theorem lslice_ok {α : Type} {l : List α} {lo hi : Int} (h0 : 0 ≤ lo) (h1 : lo ≤ hi) (h2 : hi ≤ l.length) : lslice l lo hi = some ((l.take hi.toNat).drop lo.toNat) := by
 unfold lslice; rw [if_pos ⟨h0, h1, h2⟩]
theorem lslice_to {α : Type} {l : List α} {k : Nat} (h : k ≤ l.length) : lslice l 0 (k : Int) = some (l.take k) := by
 rw [lslice_ok (by omega) (by omega) (by omega)]; simp
theorem lslice_from {α : Type} {l : List α} {k : Nat} (h : k ≤ l.length) : lslice l (k : Int) (l.length : Int) = some (l.drop k) := by
 rw [lslice_ok (by omega) (by omega) (by omega)]; simp
theorem bne0_true {c : Int} (h : c ≠ 0) : (c != 0) = true := by simpa using h
theorem bne0_false {c : Int} (h : c = 0) : (c != 0) = false := by simp [h]
section loops
variable {σ ρ α τ : Type} {F : Nat}
theorem iter_go {f : σ → Option (σ ⊕ ρ)} (g : Nat → σ) {r : ρ} : ∀ (n : Nat) (N : Nat), (∀ k, k < n → f (g k) = some (.inl (g (k + 1)))) → f (g n) = some (.inr r) → n < N → iter f N (g 0) = some r
 | 0, N, _, he, hN => by
  obtain ⟨N, rfl⟩ : ∃ M, N = M + 1 := ⟨N - 1, by omega⟩
  rw [iter, he]
 | n + 1, N, hs, he, hN => by
  obtain ⟨N, rfl⟩ : ∃ M, N = M + 1 := ⟨N - 1, by omega⟩
  rw [iter, hs 0 (by omega)]
  exact iter_go (fun k => g (k + 1)) n N (fun k hk => hs (k + 1) (by omega)) he (by omega)
theorem lt_big [h : Big F] {n : Nat} (hn : n ≤ 9223372036854775807) : n < F := by have := h.le; omega
theorem loop_run [Big F] {f : σ → Option (σ ⊕ ρ)} (g : Nat → σ) (n : Nat) {r : ρ} {s : σ} (h0 : s = g 0) (hn : n ≤ 9223372036854775807) (hs : ∀ k, k < n → f (g k) = some (.inl (g (k + 1)))) (he : f (g n) = some (.inr r)) : iter f F s = some r := by
 rw [h0]; exact iter_go g n F hs he (lt_big hn)
theorem iter_big [Big F] {f : σ → Option (σ ⊕ ρ)} (g : Nat → σ) {r : ρ} (n : Nat) (hs : ∀ k, k < n → f (g k) = some (.inl (g (k + 1)))) (he : f (g n) = some (.inr r)) (hn : n ≤ 9223372036854775807) {s : σ} (h0 : s = g 0) : iter f F s = some r :=
 loop_run g n h0 hn hs he
theorem iter_bindF [Big F] {f : σ → Option (σ ⊕ ρ)} {k : ρ → Option τ} {q : τ} (g : Nat → σ) {r : ρ} (n : Nat) {s : σ} (hn : n ≤ 9223372036854775807) (h0 : s = g 0) (hk : k r = some q) (hs : ∀ k, k < n → f (g k) = some (.inl (g (k + 1)))) (he : f (g n) = some (.inr r)) :
 (iter f F s).bind k = some q := by
 rw [loop_run g n h0 hn hs he]; exact hk
theorem loop_find [Big F] {f : Int → Option (Int ⊕ ρ)} (l : List α) (w : Nat → α → Option ρ) (res : ρ) (hn : l.length ≤ 9223372036854775807) {s : Int} (h0 : s = 0)
 (hs : ∀ (k : Nat) (e : α), l[k]? = some e → (∀ j x, j < k → l[j]? = some x → w j x = none) → f (k : Int) = some (match w k e with | some r => .inr r | none => .inl ((k : Int) + 1)))
 (he : f (l.length : Int) = some (.inr res)) : iter f F s = some (((l.zipIdx).findSome? fun p => w p.2 p.1).getD res) := by
 subst h0
 have key : ∀ (m k N : Nat), k + m = l.length → m < N → (∀ j x, j < k → l[j]? = some x → w j x = none) → iter f N (k : Int) = some ((((l.drop k).zipIdx k).findSome? fun p => w p.2 p.1).getD res) := by
  intro m
  induction m with
  | zero =>
   intro k N hk hN _
   obtain ⟨N, rfl⟩ : ∃ M, N = M + 1 := ⟨N - 1, by omega⟩
   rw [iter, show k = l.length by omega, he, List.drop_length]; rfl
  | succ m ih =>
   intro k N hk hN hb
   obtain ⟨N, rfl⟩ : ∃ M, N = M + 1 := ⟨N - 1, by omega⟩
   have hkl : k < l.length := by omega
   rw [iter, hs k l[k] (List.getElem?_eq_getElem hkl) hb, List.drop_eq_getElem_cons hkl, List.zipIdx_cons, List.findSome?_cons]
   dsimp only
   cases hw : w k l[k] with
   | some r => rfl
   | none =>
    refine ih (k + 1) N (by omega) (by omega) fun j x hj hx => ?_
    rcases Nat.lt_or_ge j k with h1 | h1
    · exact hb j x h1 hx
    · obtain rfl : j = k := by omega
      rw [List.getElem?_eq_getElem hkl] at hx
      obtain rfl := Option.some.inj hx
      exact hw
 have := key l.length 0 F (by omega) (lt_big hn) (fun j x hj => by omega)
 rw [List.drop_zero] at this
 exact this
theorem loop_first [Big F] {f : Int → Option (Int ⊕ ρ)} (l : List α) (w : α → Option ρ) (res : ρ) (hn : l.length ≤ 9223372036854775807) {s : Int} (h0 : s = 0)
 (hs : ∀ (k : Nat) (e : α), l[k]? = some e → f (k : Int) = some (match w e with | some r => .inr r | none => .inl ((k : Int) + 1)))
 (he : f (l.length : Int) = some (.inr res)) : iter f F s = some ((l.findSome? w).getD res) := by
 rw [loop_find l (fun _ e => w e) res hn h0 (fun k e hk _ => hs k e hk) he]
 congr 2
 have : ∀ (l : List α) (n : Nat), (l.zipIdx n).findSome? (fun p => w p.1) = l.findSome? w := by
  intro l
  induction l with
  | nil => intro n; rfl
  | cons a l ih => intro n; rw [List.zipIdx_cons, List.findSome?_cons, List.findSome?_cons, ih]
 exact this l 0
theorem find_none {l : List α} {w : Nat → α → Option ρ} : (l.zipIdx.findSome? fun p => w p.2 p.1) = none ↔ ∀ k e, l[k]? = some e → w k e = none := by
 rw [List.findSome?_eq_none_iff]
 constructor
 · intro h k e hk
   exact h (e, k) (by rw [List.mem_zipIdx_iff_getElem?]; exact hk)
 · rintro h ⟨e, k⟩ hp
   rw [List.mem_zipIdx_iff_getElem?] at hp
   exact h k e hp
theorem find_some {l : List α} {w : Nat → α → Option ρ} {r : ρ} (h : (l.zipIdx.findSome? fun p => w p.2 p.1) = some r) : ∃ k e, l[k]? = some e ∧ w k e = some r := by
 obtain ⟨⟨e, k⟩, hp, hr⟩ := List.exists_of_findSome?_eq_some h
 rw [List.mem_zipIdx_iff_getElem?] at hp
 exact ⟨k, e, hp, hr⟩
theorem loop_fold [Big F] {f : τ × Int → Option ((τ × Int) ⊕ ρ)} (l : List α) (st : τ → α → τ) (a0 : τ) {r : ρ} (hn : l.length ≤ 9223372036854775807) {s : τ × Int} (h0 : s = (a0, 0))
 (hs : ∀ (k : Nat) (e : α), l[k]? = some e → f ((l.take k).foldl st a0, (k : Int)) = some (.inl (st ((l.take k).foldl st a0) e, (k : Int) + 1)))
 (he : f (l.foldl st a0, (l.length : Int)) = some (.inr r)) : iter f F s = some r := by
 refine loop_run (fun k => ((l.take k).foldl st a0, (k : Int))) l.length (by rw [h0]; rfl) hn (fun k hk => ?_) (by rw [List.take_length]; exact he)
 rw [hs k l[k] (List.getElem?_eq_getElem hk), List.take_add_one, List.getElem?_eq_getElem hk, Option.toList_some, List.foldl_append]
 simp
theorem loop_rec [Big F] {f : σ → Option (σ ⊕ ρ)} {K : ρ → Option τ} (R : Nat → σ → τ → Prop)
 (hR : ∀ m s q, R m s q → (∃ r, f s = some (.inr r) ∧ K r = some q) ∨ ∃ m' s', m' < m ∧ f s = some (.inl s') ∧ R m' s' q) {m : Nat} {s : σ} {q : τ} (hm : m ≤ 9223372036854775807) (h : R m s q) : (iter f F s).bind K = some q := by
 have key : ∀ (n N m : Nat) (s : σ), m ≤ n → n < N → R m s q → (iter f N s).bind K = some q := by
  intro n
  induction n with
  | zero =>
   intro N m s hmn hN hs
   obtain ⟨N, rfl⟩ : ∃ M, N = M + 1 := ⟨N - 1, by omega⟩
   rcases hR m s q hs with ⟨r, h1, h2⟩ | ⟨m', s', h1, h2, h3⟩
   · rw [iter, h1]; exact h2
   · omega
  | succ n ih =>
   intro N m s hmn hN hs
   obtain ⟨N, rfl⟩ : ∃ M, N = M + 1 := ⟨N - 1, by omega⟩
   rcases hR m s q hs with ⟨r, h1, h2⟩ | ⟨m', s', h1, h2, h3⟩
   · rw [iter, h1]; exact h2
   · rw [iter, h2]; exact ih N m' s' (by omega) (by omega) h3
 exact key m F m s (Nat.le_refl _) (lt_big hm) h
end loops
end Go.Proofs.YtacjdfhllomccaaGreatDoor
/- Rules for lists with room behind them: loops by so many rounds, stores behind a list, rows that a call hands on. Its conditions: none. -/
namespace Go.Proofs.YtacjdfhllomccaaGreatDoor
open Go.RowKit
set_option linter.unusedVariables false
set_option linter.unusedSimpArgs false
section
variable {rl : Option Nat} {P : Program} {N : Sz} {w0 : World} {V : View} {H : List HObj} {M : List (Nat × Value)} {Q : Exit → Act → World → Prop} {c : Code}
theorem T.leaveB {id : Nat} {Q : Exit → Act → World → Prop} (h : T N w0 V H M (Q .normal)) : T N w0 V H M (Exit.inBlock id Q (.exit id)) := fun a w hf hh => by
 show (if id = id then _ else _)
 rw [if_pos rfl]; exact h a w hf hh
theorem T.loopN (n : Nat) (I : Nat → Act → World → Prop) (h0 : T N w0 V H M (I 0)) (step : ∀ k, k < n → ∀ a w, I k a w → c.wpIn (RF rl) 0 P (Exit.then (I (k + 1)) Q) a w)
 (stop : ∀ a w, I n a w → c.wpIn (RF rl) 0 P (Exit.then (fun _ _ => False) Q) a w) : T N w0 V H M ((Code.loop c).wpIn (RF rl) 0 P Q) := fun a w hf hh => by
 refine wpIn_loop_rounds (n + 1) ?_
 have key : ∀ m k, k + m = n → ∀ a w, I k a w → Code.roundsIn (RF rl) 0 P c Q (m + 1) a w := by
  intro m
  induction m with
  | zero =>
   intro k hk a w hi
   obtain rfl : k = n := by omega
   rw [roundsIn_succ]
   exact Go.wpIn_mono (stop a w hi) (fun e a1 w1 hq => by cases e <;> first | exact hq.elim | exact hq)
  | succ m ih =>
   intro k hk a w hi
   rw [roundsIn_succ]
   exact Go.wpIn_mono (step k (by omega) a w hi) (fun e a1 w1 hq => by cases e <;> first | exact ih (k + 1) (by omega) a1 w1 hq | exact hq)
 exact key n 0 (by omega) a w (h0 a w hf hh)
end
section
variable {P : Program} {α : Type} {N : Sz} {w0 : World} {V : View} {H : List HObj} {M : List (Nat × Value)} {ops : Array Oper} {Q : Exit → Act → World → Prop} {o : Oper} {K : Act → World → Prop} {E : Enc α} {p : Bool} {t e : TypeId} {A : Option Addr} {c : Nat} {l : List α}
theorem W1.storeExt (i : Nat) (x : α) (a : Addr) {vs : List Value} {t' : TypeId} {q y : Operand} {v : Value} (hi : nth H i = some (rowb p e E A c l)) (hlt : l.length < c) (hc : okO N ops M o = true) (ho : o.op = .store t' q y)
 (hq : evM M q = .pointer (some a)) (ha : a = (sadr A).add (l.length * E.size)) (hy : evM M y = v) (hvs : v.cells = vs.toArray) (hs : ∀ w, (sizeOf t').run P w = .ok vs.length w) (h1 : ∀ u ∈ vs, u.oneCell' = true)
 (hlen : vs.length = E.size) (hst : ∀ V, E.rep V vs x)
 (h : T N w0 V (H.set i (rowb p e E A c (l ++ [x]))) (putM o.dst undef M) K) : W1 P Q ops o N w0 V H M K := fun a' w hf hh => by
 obtain ⟨g1, _, _, h4⟩ := okO_parts hc
 rw [nth_eq] at hi
 refine ⟨gd_wanted hf g1, ?_⟩
 obtain ⟨hlc, hcm, hrow⟩ := hh.objs _ (List.mem_of_getElem? hi)
 have hc0 : c ≠ 0 := by omega
 rcases hrow with h0 | ⟨g, cur, fz, xs, hrow⟩
 · exact absurd h0 hc0
 have hadr : a = ⟨g, l.length * E.size, none⟩ := by
  rw [ha, hrow.adr]
  simp only [sadr, Option.getD_some]
  unfold Addr.add
  split <;> simp_all
 have hfit : l.length * E.size + vs.length ≤ cur.size := by
  have := Nat.mul_le_mul_right E.size (show l.length + 1 ≤ c from hlt)
  rw [Nat.add_mul, Nat.one_mul] at this
  rw [hrow.size, hlen]; exact this
 have hsto := run_storeCells_un (P := P) g (l.length * E.size) e fz vs 0 cur w hrow.heap hrow.unfrz (by simpa using hfit) h1
 simp only [Nat.add_zero] at hsto
 have hrun : (execOp (evM M) o).run P w = .ok .skip (w.setRow g (cur.toList.take (l.length * E.size) ++ vs ++ cur.toList.drop (l.length * E.size + vs.length)).toArray) := by
  simp [execOp, ho, hq, hy, hadr, Instr.storeAt, Instr.sureAddr, storeVar, hvs, hs w, hsto]
 unfold Oper.wp
 rw [okO_exec hc hf, hrun]
 have hblk : ∀ l : List α, (rowb p e E A c l).own g := fun l => by
  show rowblk A c = some g
  unfold rowblk; rw [if_neg hc0, hrow.adr]; rfl
 refine h _ _ (hf.put h4 _) (hh.turn (o := some g) hi ?_ ?_ (fun b hb => .inl hb) (fun b e => by rw [← Option.some.inj e]; exact hblk _))
 · exact ⟨rfl, rfl, rfl, by simp, fun b _ hb => setRow_other w g b _ (fun e => hb (by rw [e]))⟩
 · have hlen' : (cur.toList.take (l.length * E.size) ++ vs ++ cur.toList.drop (l.length * E.size + vs.length)).length = cur.size := by
    simp only [List.length_append, List.length_take, List.length_drop, Array.length_toList]; omega
   have hone : RowRep V E vs [x] := by
    refine ⟨by rw [hlen]; simp, fun k z hk => ?_⟩
    cases k with
    | zero =>
     obtain rfl := Option.some.inj hk
     rw [Nat.zero_mul, List.drop_zero, List.take_of_length_le (by omega)]; exact hst V
    | succ k => simp at hk
   refine ⟨by rw [List.length_append]; exact hlt, hcm, .inr ⟨g, _, fz, _, ⟨hrow.adr, setRow_heap w g cur _ e _ hrow.heap, hrow.plain, ?_, ?_, rfl, ?_⟩⟩⟩
   · rw [List.size_toArray, hlen']; exact hrow.unfrz
   · rw [List.size_toArray, hlen']; exact hrow.size
   · refine (congrArg (fun q => RowRep V E q (l ++ [x])) ?_).mp (hrow.rep.append hone)
     have hxl : xs.length = l.length * E.size := hrow.rep.1
     have e1 : cur.toList.take (l.length * E.size) = xs := hrow.take
     have e2 : (l ++ [x]).length * E.size = xs.length + vs.length := by rw [List.length_append, hxl, hlen, Nat.add_mul]; simp
     simp only [List.toList_toArray]
     rw [e1, e2, List.append_assoc, List.take_append]
     simp
     exact (List.take_of_length_le (by omega)).symm
theorem Hp.row_some {w : World} (hh : Hp w0 V H w) {i : Nat} (hi : nth H i = some (rowb p e E A c l)) (hc : 0 < c) : A.isSome = true := by
 rw [nth_eq] at hi
 obtain ⟨_, _, h0 | ⟨g, cur, fz, xs, hrow⟩⟩ := hh.objs _ (List.mem_of_getElem? hi)
 · omega
 · rw [hrow.adr]; rfl
end
theorem Hp.objs_at {α : Type} {w0 : World} {V : View} {H : List HObj} {w : World} {p : Bool} {e : TypeId} {E : Enc α} {A : Option Addr} {c : Nat} {l : List α} (hh : Hp w0 V H w) {i : Nat} (hi : nth H i = some (rowb p e E A c l)) : l.length ≤ c := by
 rw [nth_eq] at hi
 exact (hh.objs _ (List.mem_of_getElem? hi)).1
end Go.Proofs.YtacjdfhllomccaaGreatDoor
/- What the function spoil of the laws does to lists of the call's own: of records, of strings. Its conditions: as each states. -/
namespace Go.Proofs.YtacjdfhllomccaaGreatDoor
open Go.RowKit
set_option linter.unusedVariables false
set_option linter.unusedSimpArgs false
set_option maxRecDepth 100000
set_option maxHeartbeats 4000000
section
variable {rl : Option Nat} {P : Program} {N : Sz} {w0 : World} {V V0 : View} {H H0 : List HObj} {M : List (Nat × Value)} {ops : Array Oper} {Q : Exit → Act → World → Prop} {rest : List Oper} {o : Oper} {fuel : Nat} {listed : Array Bool} {j0 : Nat} {K : Act → World → Prop} {φ : Act → Prop}
theorem T.k (v : Value) (h : T N w0 V H (putM o.dst v M) (wpListIn (RF rl) 0 P ops Q rest)) (hb : ∀ w, ((okO N ops M o && noDefer o.op), (execOp (evM M) o).run P w) = (true, .ok (.value v) w) := by intro _; kernel_rfl) : T N w0 V H M (wpListIn (RF rl) 0 P ops Q (o :: rest)) := T.pk v hb h
theorem T.l (v : Value) (hv : ∀ w, Hp w0 V H w → (execOp (evM M) o).run P w = .ok (.value v) w) (h : T N w0 V H (putM o.dst v M) (wpListIn (RF rl) 0 P ops Q rest)) (hc : (okO N ops M o && noDefer o.op) = true := by kernel_rfl) : T N w0 V H M (wpListIn (RF rl) 0 P ops Q (o :: rest)) := by
 simp only [Bool.and_eq_true] at hc
 exact T.step (W1.look v hc.1 hv h) hc.2
theorem T.cb {c : Operand} {x y : Code} (b : Bool) (ht : b = true → T N w0 V H M (x.wpIn (RF rl) 0 P Q)) (hf : b = false → T N w0 V H M (y.wpIn (RF rl) 0 P Q)) (hk : knows M c = true := by kernel_rfl) (hc : evM M c = .bool b := by kernel_rfl) :
 T N w0 V H M ((Code.cond c x y).wpIn (RF rl) 0 P Q) := T.cond b hk hc ht hf
theorem T.i {φ : Act → World → Prop} {a : Act} {w : World} (h : T N w0 V H M φ) : Fr N M a → Hp w0 V H w → φ a w := h a w
theorem T.sr {id : Nat} {l : List Oper} {y : Code} (h : T N w0 V H M (wpListIn (RF rl) 0 P l.toArray (Exit.then (y.wpIn (RF rl) 0 P Q) Q) l)) : T N w0 V H M ((Code.seq (Code.region id l.toArray false) y).wpIn (RF rl) 0 P Q) := T.seq (T.region h)
theorem Fr.s {M' : List (Nat × Value)} {a : Act} (hf : Fr N M a) (h : M'.map (fun p => lk M p.1) = M'.map (fun p => some p.2) := by exact rfl) : Fr N M' a := Fr.sel hf h
end
section
variable {rl : Option Nat} {P : Program} {N : Sz} {w0 : World} {V : View} {H : List HObj} {M : List (Nat × Value)} {ops : Array Oper} {Q : Exit → Act → World → Prop} {rest : List Oper}
theorem T.k2 {o1 o2 : Oper} (v1 v2 : Value) (h : T N w0 V H (putM o2.dst v2 (putM o1.dst v1 (M))) (wpListIn (RF rl) 0 P ops Q rest)) (hb : ∀ w, ((okO N ops (M) o1 && noDefer o1.op), (execOp (evM (M)) o1).run P w, (okO N ops (putM o1.dst v1 (M)) o2 && noDefer o2.op), (execOp (evM (putM o1.dst v1 (M))) o2).run P w) = (true, .ok (.value v1) w, true, .ok (.value v2) w) := by intro _; kernel_rfl) :
 T N w0 V H M (wpListIn (RF rl) 0 P ops Q (o1 :: o2 :: rest)) :=
 T.pk v1 (fun w => Prod.ext (congrArg (fun q => q.1) (hb w)) (congrArg (fun q => q.2.1) (hb w))) (T.pk v2 (fun w => Prod.ext (congrArg (fun q => q.2.2.1) (hb w)) (congrArg (fun q => q.2.2.2) (hb w))) (h))
theorem T.k3 {o1 o2 o3 : Oper} (v1 v2 v3 : Value) (h : T N w0 V H (putM o3.dst v3 (putM o2.dst v2 (putM o1.dst v1 (M)))) (wpListIn (RF rl) 0 P ops Q rest)) (hb : ∀ w, ((okO N ops (M) o1 && noDefer o1.op), (execOp (evM (M)) o1).run P w, (okO N ops (putM o1.dst v1 (M)) o2 && noDefer o2.op), (execOp (evM (putM o1.dst v1 (M))) o2).run P w, (okO N ops (putM o2.dst v2 (putM o1.dst v1 (M))) o3 && noDefer o3.op), (execOp (evM (putM o2.dst v2 (putM o1.dst v1 (M)))) o3).run P w) = (true, .ok (.value v1) w, true, .ok (.value v2) w, true, .ok (.value v3) w) := by intro _; kernel_rfl) :
 T N w0 V H M (wpListIn (RF rl) 0 P ops Q (o1 :: o2 :: o3 :: rest)) :=
 T.pk v1 (fun w => Prod.ext (congrArg (fun q => q.1) (hb w)) (congrArg (fun q => q.2.1) (hb w))) (T.pk v2 (fun w => Prod.ext (congrArg (fun q => q.2.2.1) (hb w)) (congrArg (fun q => q.2.2.2.1) (hb w))) (T.pk v3 (fun w => Prod.ext (congrArg (fun q => q.2.2.2.2.1) (hb w)) (congrArg (fun q => q.2.2.2.2.2) (hb w))) (h)))
end
theorem one_elem (x : DElem) : ∀ u ∈ x.cells, u.oneCell' = true := fun u hu => eElem.one (V := fun _ => none) (x := x) rfl u hu
theorem own_spoil_Elem {w : World} {V : View} {G : List HObj} {w1 : World} {A : Option Addr} {c : Nat} {l : List DElem} {n : Nat} (x : DElem) (hn : n ≤ c) (hh : Hp w V (row 44 eElem A c l :: G) w1) :
 Calls Tryz.prog 38 #[.slice A n c, .agg #[.int .i64 x.key.pfs, .int .i64 x.key.obj, .int .i64 x.key.off, .int .i64 x.made, .int .i64 x.gone, .string x.val]] w1
  (fun r w2 => r = .returned (.tuple #[]) ∧ Hp w V (row 44 eElem A c (List.replicate c x) :: G) w2) := by
 refine T.startI (l := [.slice A n c, .agg #[vi x.key.pfs, vi x.key.obj, vi x.key.off, vi x.made, vi x.gone, .string x.val]]) Tryz.func38 rfl rfl rfl ?_ hh
 clear hh
 refine T.rowlen 0 rfl (fun hlc hcm => ?_)
 refine T.shrink (l := []) 0 (by rfl) (List.nil_prefix) ?_
 refine T.sr (T.step (W1.np 44 x.cells (by intro _; kernel_rfl) (fun b => T.nil ?_)))
 refine T.sr (T.k3 (.slice A n c) (.slice A n c) (vi (c : Int)) ?_)
 refine T.l (.slice (cutA A c 0 6) c c) (fun w' hh => exec_slice_cap (e := 44) (s := 6) (lx := none) (hx := some _) (lo := 0) (hi := (c : Int)) (k := .i64) (k' := .i64) rfl rfl (by kernel_rfl) (by kernel_rfl) rfl rfl (by omega) (by omega) (by omega)) ?_
 refine T.reslot 8 (.slice A c c) rfl (by rw [cutA_zero]) ?_
 refine T.k (.slice A c c) (T.nil ?_)
 refine T.sr (T.k3 (.slice A c c) (vi (c : Int)) (vi 0) (T.nil ?_))
 refine T.block ?_
 refine T.loopN c (fun k a w' => Fr 19 [(0, .slice A c c), (3, pB b 0), (9, .slice A c c), (10, vi (c : Int)), (11, vi (k : Int))] a ∧ Hp w V (box b 44 x.cells :: row 44 eElem A c (List.replicate k x) :: G) w') ?_ ?_ ?_
 · exact fun a w' hf hh => ⟨Fr.s hf, hh⟩
 · rintro k hk a w' ⟨hf, hh⟩
   revert hf hh
   refine T.i ?_
   refine T.sr (T.k (.bool (decide ((k : Int) < (c : Int)))) (T.nil ?_))
   refine T.seq (T.cb (decide ((k : Int) < (c : Int))) (fun hc => ?_) (fun hc => absurd (of_decide_eq_false hc) (by omega)))
   refine T.skip_code ?_
   refine T.seq (T.block (T.sr (T.k2 (vi (k : Int)) (vi (k : Int)) (T.nil ?_))))
   refine T.region (T.k2 (.slice A c c) (vi (k : Int)) ?_)
   refine T.l (.agg #[vi x.key.pfs, vi x.key.obj, vi x.key.off, vi x.made, vi x.gone, .string x.val]) (ldN 0 (by exact rfl) (by exact rfl) (by intro _; kernel_rfl) (by rfl) (by exact rfl)) ?_
   refine T.l (.pointer (some ((sadr A).add (k * 6)))) (fun w' hh => exec_indexAddr (e := 44) (s := 6) (n := c) (c := c) (iv := (k : Int)) (k := .i64) rfl rfl rfl (by kernel_rfl) (by kernel_rfl) (by omega) (by omega) (hh.row_some (i := 1) (by rfl) (by omega))) ?_
   refine T.step (W1.storeExt (E := eElem) 1 x _ (vs := x.cells) (by rfl) (by rw [List.length_replicate]; exact hk) (by kernel_rfl) rfl rfl (by rw [List.length_replicate]; rfl) rfl rfl (fun _ => by kernel_rfl) (one_elem x) rfl (fun _ => rfl) ?_)
   refine T.reH (H' := box b 44 x.cells :: row 44 eElem A c (List.replicate (k + 1) x) :: G) (by rw [List.replicate_succ']; rfl) ?_
   refine T.nil ?_
   refine T.region (T.k (vi (IntKind.i64.wrap ((k : Int) + 1))) ?_)
   refine T.reslot 18 (vi ((k + 1 : Nat) : Int)) rfl (by show Value.int .i64 _ = Value.int .i64 _; congr 1; unfold maxLen at hcm; rw [IntKind.wrap_i64]; omega) ?_
   refine T.k (vi ((k + 1 : Nat) : Int)) (T.nil ?_)
   exact fun a w' hf hh => ⟨Fr.s hf, hh⟩
 · rintro a w' ⟨hf, hh⟩
   revert hf hh
   refine T.i ?_
   refine T.sr (T.k (.bool (decide ((c : Int) < (c : Int)))) (T.nil ?_))
   refine T.seq (T.cb (decide ((c : Int) < (c : Int))) (fun hc => absurd (of_decide_eq_true hc) (by omega)) (fun hc => ?_))
   refine T.exit (T.unthenX (T.unthenX (T.leaveB ?_)))
   exact T.end0 rfl (fun w' hh => ⟨rfl, hh.sub (.cons _ (List.Sublist.refl _))⟩)
theorem one_str (x : ByteArray) : ∀ u ∈ [Value.string x], u.oneCell' = true := fun u hu => eStr.one (V := fun _ => none) (x := x) rfl u hu
theorem own_spoil_str {w : World} {V : View} {G : List HObj} {w1 : World} {A : Option Addr} {c : Nat} {l : List ByteArray} {n : Nat} (x : ByteArray) (hn : n ≤ c) (hh : Hp w V (row 9 eStr A c l :: G) w1) :
 Calls Tryz.prog 39 #[.slice A n c, .string x] w1
  (fun r w2 => r = .returned (.tuple #[]) ∧ Hp w V (row 9 eStr A c (List.replicate c x) :: G) w2) := by
 refine T.startI (l := [.slice A n c, .string x]) Tryz.func39 rfl rfl rfl ?_ hh
 clear hh
 refine T.rowlen 0 rfl (fun hlc hcm => ?_)
 refine T.shrink (l := []) 0 (by rfl) (List.nil_prefix) ?_
 refine T.sr (T.k3 (.slice A n c) (.slice A n c) (vi (c : Int)) ?_)
 refine T.l (.slice (cutA A c 0 1) c c) (fun w' hh => exec_slice_cap (e := 9) (s := 1) (lx := none) (hx := some _) (lo := 0) (hi := (c : Int)) (k := .i64) (k' := .i64) rfl rfl (by kernel_rfl) (by kernel_rfl) rfl rfl (by omega) (by omega) (by omega)) ?_
 refine T.reslot 8 (.slice A c c) rfl (by rw [cutA_zero]) ?_
 refine T.k (.slice A c c) (T.nil ?_)
 refine T.sr (T.k3 (.slice A c c) (vi (c : Int)) (vi 0) (T.nil ?_))
 refine T.block ?_
 refine T.loopN c (fun k a w' => Fr 19 [(0, .slice A c c), (1, .string x), (9, .slice A c c), (10, vi (c : Int)), (11, vi (k : Int))] a ∧ Hp w V (row 9 eStr A c (List.replicate k x) :: G) w') ?_ ?_ ?_
 · exact fun a w' hf hh => ⟨Fr.s hf, hh⟩
 · rintro k hk a w' ⟨hf, hh⟩
   revert hf hh
   refine T.i ?_
   refine T.sr (T.k (.bool (decide ((k : Int) < (c : Int)))) (T.nil ?_))
   refine T.seq (T.cb (decide ((k : Int) < (c : Int))) (fun hc => ?_) (fun hc => absurd (of_decide_eq_false hc) (by omega)))
   refine T.skip_code ?_
   refine T.seq (T.block (T.sr (T.k2 (vi (k : Int)) (vi (k : Int)) (T.nil ?_))))
   refine T.region (T.k2 (.slice A c c) (vi (k : Int)) ?_)
   refine T.k (.string x) ?_
   refine T.l (.pointer (some ((sadr A).add (k * 1)))) (fun w' hh => exec_indexAddr (e := 9) (s := 1) (n := c) (c := c) (iv := (k : Int)) (k := .i64) rfl rfl rfl (by kernel_rfl) (by kernel_rfl) (by omega) (by omega) (hh.row_some (i := 0) (by rfl) (by omega))) ?_
   refine T.step (W1.storeExt (E := eStr) 0 x _ (vs := [.string x]) (by rfl) (by rw [List.length_replicate]; exact hk) (by kernel_rfl) rfl rfl (by rw [List.length_replicate]; rfl) rfl rfl (fun _ => by kernel_rfl) (one_str x) rfl (fun _ => rfl) ?_)
   refine T.reH (H' := row 9 eStr A c (List.replicate (k + 1) x) :: G) (by rw [List.replicate_succ']; rfl) ?_
   refine T.nil ?_
   refine T.region (T.k (vi (IntKind.i64.wrap ((k : Int) + 1))) ?_)
   refine T.reslot 18 (vi ((k + 1 : Nat) : Int)) rfl (by show Value.int .i64 _ = Value.int .i64 _; congr 1; unfold maxLen at hcm; rw [IntKind.wrap_i64]; omega) ?_
   refine T.k (vi ((k + 1 : Nat) : Int)) (T.nil ?_)
   exact fun a w' hf hh => ⟨Fr.s hf, hh⟩
 · rintro a w' ⟨hf, hh⟩
   revert hf hh
   refine T.i ?_
   refine T.sr (T.k (.bool (decide ((c : Int) < (c : Int)))) (T.nil ?_))
   refine T.seq (T.cb (decide ((c : Int) < (c : Int))) (fun hc => absurd (of_decide_eq_true hc) (by omega)) (fun hc => ?_))
   refine T.exit (T.unthenX (T.unthenX (T.leaveB ?_)))
   exact T.end0 rfl (fun w' hh => ⟨rfl, hh⟩)
end Go.Proofs.YtacjdfhllomccaaGreatDoor
/- Pure functions, written by walkgen.py out of the Go functions of group Ref. Their conditions: none. -/
namespace Go.Proofs.YtacjdfhllomccaaGreatDoor
set_option linter.unusedVariables false
def annalref_Dec_0 (p0 : Int) : Option (ByteArray) := none
def annalref_Dec_1 (p0 : Int) : Option (ByteArray) :=
 bif decide (p0 < 10) then
  (sslice (ByteArray.mk #[48, 49, 50, 51, 52, 53, 54, 55, 56, 57]) (if (0 : Int) < p0 then p0 else 0) (IntKind.i64.wrap ((if (0 : Int) < p0 then p0 else 0) + 1))).bind fun s1 =>
  some s1
 else
  (annalref_Dec_0 (IntKind.i64.wrap ((p0 : Int).tdiv 10))).bind fun r1 =>
  (annalref_Dec_0 ((p0 : Int).tmod 10)).bind fun r2 =>
  (scat r1 r2).bind fun s2 =>
  some s2
def annalref_Dec (p0 : Int) : Option (ByteArray) :=
 bif decide (p0 < 10) then
  (sslice (ByteArray.mk #[48, 49, 50, 51, 52, 53, 54, 55, 56, 57]) (if (0 : Int) < p0 then p0 else 0) (IntKind.i64.wrap ((if (0 : Int) < p0 then p0 else 0) + 1))).bind fun s1 =>
  some s1
 else
  (annalref_Dec_1 (IntKind.i64.wrap ((p0 : Int).tdiv 10))).bind fun r1 =>
  (annalref_Dec_1 ((p0 : Int).tmod 10)).bind fun r2 =>
  (scat r1 r2).bind fun s2 =>
  some s2
end Go.Proofs.YtacjdfhllomccaaGreatDoor
/- The Go functions of group Ref compute the pure functions of that group: written by walkgen.py. Condition of each: the pure function yields a result. -/
namespace Go.Proofs.YtacjdfhllomccaaGreatDoor
set_option linter.unusedVariables false
set_option maxRecDepth 100000 in
set_option maxHeartbeats 4000000 in
theorem annalref_Dec_0_l (p0 : Int) (r : ByteArray) (hF : annalref_Dec_0 p0 = some r) (w : World)  :
 Calls Tryz.prog 71 #[.int .i64 p0] w (Post (vSc eStr) r w) := by
 cases hF
set_option maxRecDepth 100000 in
set_option maxHeartbeats 4000000 in
theorem annalref_Dec_1_l (p0 : Int) (r : ByteArray) (hF : annalref_Dec_1 p0 = some r) (w : World)  :
 Calls Tryz.prog 71 #[.int .i64 p0] w (Post (vSc eStr) r w) := by
 unfold annalref_Dec_1 at hF
 refine T.start (l := [vi p0]) Tryz.func71 rfl rfl rfl ?_
 refine T.seq (T.region (T.pk (.string (ByteArray.mk #[])) (fun _ => by kernel_rfl) (T.nil (T.seq (T.seq (T.region (T.p2 (vi p0) (.bool (decide (p0 < 10))) (fun _ => by kernel_rfl) (T.nil ?_))))))))
 refine T.cond (decide (p0 < 10)) (by kernel_rfl) (by kernel_rfl) (fun hc1 => ?_) (fun hc1 => ?_)
 ·
  rw [hc1, cond_true] at hF
  refine T.seq (T.region (T.p5 (vi p0) (vi (if (0 : Int) < p0 then p0 else 0)) (vi p0) (vi (if (0 : Int) < p0 then p0 else 0)) (vi (IntKind.i64.wrap ((if (0 : Int) < p0 then p0 else 0) + 1))) (fun _ => by kernel_rfl) ?_))
  obtain ⟨s1, hb1, hF⟩ := ob hF
  refine T.look (.string s1) (by kernel_rfl) (fun w' hh => exec_slice_str rfl rfl rfl rfl (by kernel_rfl) hb1) ?_
  refine T.pk (.string s1) (fun _ => by kernel_rfl) (T.nil ?_)
  cases hF
  refine T.ret rfl ?_
  exact T.ret1 rfl (ResIs.tmp rfl) fun w' hh => ⟨_, rfl, hh.below, (show _ from rfl)⟩
 rw [hc1, cond_false] at hF
 refine T.skip_code ?_
 refine T.seq (T.region (T.p2 (vi p0) (vi (IntKind.i64.wrap ((p0 : Int).tdiv 10))) (fun _ => by kernel_rfl) ?_))
 obtain ⟨r1, hb2, hF⟩ := ob hF
 refine T.step (W1.call (vSc eStr) r1 71 #[vi (IntKind.i64.wrap ((p0 : Int).tdiv 10))] (by kernel_rfl) (fun _ => by kernel_rfl) (fun w' hh => annalref_Dec_0_l (IntKind.i64.wrap ((p0 : Int).tdiv 10)) r1 hb2 w' ) ?_)
 intro u V1 hV1 hu
 obtain rfl := sureStr _ _ _ hu
 refine T.p2 (vi p0) (vi ((p0 : Int).tmod 10)) (fun _ => by kernel_rfl) ?_
 obtain ⟨r2, hb3, hF⟩ := ob hF
 refine T.step (W1.call (vSc eStr) r2 71 #[vi ((p0 : Int).tmod 10)] (by kernel_rfl) (fun _ => by kernel_rfl) (fun w' hh => annalref_Dec_0_l ((p0 : Int).tmod 10) r2 hb3 w' ) ?_)
 intro u V2 hV2 hu
 obtain rfl := sureStr _ _ _ hu
 obtain ⟨s2, hb4, hF⟩ := ob hF
 refine T.look (.string s2) (by kernel_rfl) (fun w' hh => exec_scat rfl rfl rfl hb4) ?_
 refine T.pk (.string s2) (fun _ => by kernel_rfl) (T.nil ?_)
 cases hF
 refine T.ret rfl ?_
 exact T.ret1 rfl (ResIs.tmp rfl) fun w' hh => ⟨_, rfl, hh.below, (show _ from rfl)⟩
set_option maxRecDepth 100000 in
set_option maxHeartbeats 4000000 in
theorem annalref_Dec_l (p0 : Int) (r : ByteArray) (hF : annalref_Dec p0 = some r) (w : World)  :
 Calls Tryz.prog 71 #[.int .i64 p0] w (Post (vSc eStr) r w) := by
 unfold annalref_Dec at hF
 refine T.start (l := [vi p0]) Tryz.func71 rfl rfl rfl ?_
 refine T.seq (T.region (T.pk (.string (ByteArray.mk #[])) (fun _ => by kernel_rfl) (T.nil (T.seq (T.seq (T.region (T.p2 (vi p0) (.bool (decide (p0 < 10))) (fun _ => by kernel_rfl) (T.nil ?_))))))))
 refine T.cond (decide (p0 < 10)) (by kernel_rfl) (by kernel_rfl) (fun hc1 => ?_) (fun hc1 => ?_)
 ·
  rw [hc1, cond_true] at hF
  refine T.seq (T.region (T.p5 (vi p0) (vi (if (0 : Int) < p0 then p0 else 0)) (vi p0) (vi (if (0 : Int) < p0 then p0 else 0)) (vi (IntKind.i64.wrap ((if (0 : Int) < p0 then p0 else 0) + 1))) (fun _ => by kernel_rfl) ?_))
  obtain ⟨s1, hb1, hF⟩ := ob hF
  refine T.look (.string s1) (by kernel_rfl) (fun w' hh => exec_slice_str rfl rfl rfl rfl (by kernel_rfl) hb1) ?_
  refine T.pk (.string s1) (fun _ => by kernel_rfl) (T.nil ?_)
  cases hF
  refine T.ret rfl ?_
  exact T.ret1 rfl (ResIs.tmp rfl) fun w' hh => ⟨_, rfl, hh.below, (show _ from rfl)⟩
 rw [hc1, cond_false] at hF
 refine T.skip_code ?_
 refine T.seq (T.region (T.p2 (vi p0) (vi (IntKind.i64.wrap ((p0 : Int).tdiv 10))) (fun _ => by kernel_rfl) ?_))
 obtain ⟨r1, hb2, hF⟩ := ob hF
 refine T.step (W1.call (vSc eStr) r1 71 #[vi (IntKind.i64.wrap ((p0 : Int).tdiv 10))] (by kernel_rfl) (fun _ => by kernel_rfl) (fun w' hh => annalref_Dec_1_l (IntKind.i64.wrap ((p0 : Int).tdiv 10)) r1 hb2 w' ) ?_)
 intro u V1 hV1 hu
 obtain rfl := sureStr _ _ _ hu
 refine T.p2 (vi p0) (vi ((p0 : Int).tmod 10)) (fun _ => by kernel_rfl) ?_
 obtain ⟨r2, hb3, hF⟩ := ob hF
 refine T.step (W1.call (vSc eStr) r2 71 #[vi ((p0 : Int).tmod 10)] (by kernel_rfl) (fun _ => by kernel_rfl) (fun w' hh => annalref_Dec_1_l ((p0 : Int).tmod 10) r2 hb3 w' ) ?_)
 intro u V2 hV2 hu
 obtain rfl := sureStr _ _ _ hu
 obtain ⟨s2, hb4, hF⟩ := ob hF
 refine T.look (.string s2) (by kernel_rfl) (fun w' hh => exec_scat rfl rfl rfl hb4) ?_
 refine T.pk (.string s2) (fun _ => by kernel_rfl) (T.nil ?_)
 cases hF
 refine T.ret rfl ?_
 exact T.ret1 rfl (ResIs.tmp rfl) fun w' hh => ⟨_, rfl, hh.below, (show _ from rfl)⟩
end Go.Proofs.YtacjdfhllomccaaGreatDoor
/- Pure functions, written by walkgen.py out of the Go functions of group Strs. Their conditions: none. -/
namespace Go.Proofs.YtacjdfhllomccaaGreatDoor
set_option linter.unusedVariables false
def slices_Equal_string (F : Nat) (p0 : (List ByteArray)) (p1 : (List ByteArray)) : Option (Bool) :=
 bif ((p0.length : Int) != (p1.length : Int)) then
  some false
 else
  (iter (σ := Int) (ρ := (Unit) ⊕ Bool) (fun x1 =>
   bif decide (x1 < (p0.length : Int)) then
    (idx p0 x1).bind fun e1 =>
    (idx p1 x1).bind fun e2 =>
    bif (!(seq e1 e2)) then
     some (.inr (.inr false))
    else
     some (.inl (IntKind.i64.wrap (x1 + 1)))
    else
     some (.inr (.inl ()))) F 0).bind fun z => match z with
   | .inl _ =>
    some true
   | .inr q => some q
end Go.Proofs.YtacjdfhllomccaaGreatDoor
/- The Go functions of group Strs compute the pure functions of that group: written by walkgen.py. Condition of each: the pure function yields a result. -/
namespace Go.Proofs.YtacjdfhllomccaaGreatDoor
set_option linter.unusedVariables false
set_option maxRecDepth 100000 in
set_option maxHeartbeats 4000000 in
theorem slices_Equal_string_l (F : Nat) (p0 : (List ByteArray)) (p1 : (List ByteArray)) (r : Bool) (hF : slices_Equal_string F p0 p1 = some r) (w : World) (A1 : Option Addr) (c1 : Nat) (hs1 : SlOk (vw w) eStr A1 c1 p0) (A2 : Option Addr) (c2 : Nat) (hs2 : SlOk (vw w) eStr A2 c2 p1) :
 Calls Tryz.prog 37 #[.slice A1 p0.length c1, .slice A2 p1.length c2] w (Post (vSc eBool) r w) := by
 unfold slices_Equal_string at hF
 refine T.start (l := [.slice A1 p0.length c1, .slice A2 p1.length c2]) Tryz.func37 rfl rfl rfl ?_
 refine T.seq (T.region (T.pk (.bool false) (fun _ => by kernel_rfl) (T.nil (T.seq (T.seq (T.region (T.p5 (.slice A1 p0.length c1) (vi (p0.length : Int)) (.slice A2 p1.length c2) (vi (p1.length : Int)) (.bool ((p0.length : Int) != (p1.length : Int))) (fun _ => by kernel_rfl) (T.nil ?_))))))))
 refine T.cond ((p0.length : Int) != (p1.length : Int)) (by kernel_rfl) (by kernel_rfl) (fun hc1 => ?_) (fun hc1 => ?_)
 ·
  rw [hc1, cond_true] at hF
  refine T.seq (T.region (T.pk (.bool false) (fun _ => by kernel_rfl) (T.nil ?_)))
  cases hF
  refine T.ret rfl ?_
  exact T.ret1 rfl (ResIs.tmp rfl) fun w' hh => ⟨_, rfl, hh.below, (show _ from rfl)⟩
 rw [hc1, cond_false] at hF
 refine T.skip_code ?_
 refine T.seq (T.seq (T.region (T.p3 (.slice A1 p0.length c1) (vi (p0.length : Int)) (vi 0) (fun _ => by kernel_rfl) (T.nil ?_))))
 obtain ⟨q1, hz1, hF⟩ := ob hF
 refine T.mid (fun a w' => q1 = Sum.inl () ∧ Fr 26 [] a ∧ Hp w (vw w) [] w') ?_ ?_
 ·
  refine T.block ?_
  refine T.iter (fun x1 a w' => Fr 26 [(0, .slice A1 p0.length c1), (1, .slice A2 p1.length c2), (12, vi (p0.length : Int)), (13, vi x1)] a ∧ Hp w (vw w) [] w') hz1 ?_ ?_
  ·
   exact fun a w' hf hh => ⟨(Fr.sel hf rfl), (hh.sub List.Sublist.slnil)⟩
  rintro x1 y1 hY1 hr1 a w' ⟨hf, hh⟩
  refine (?_ : T 26 w (vw w) [] [(0, .slice A1 p0.length c1), (1, .slice A2 p1.length c2), (12, vi (p0.length : Int)), (13, vi x1)] _) a w' hf hh
  clear hf hh
  try dsimp only at hY1
  refine T.seq (T.region (T.pk (.bool (decide (x1 < (p0.length : Int)))) (fun _ => by kernel_rfl) (T.nil (T.seq ?_))))
  refine T.cond (decide (x1 < (p0.length : Int))) (by kernel_rfl) (by kernel_rfl) (fun hc2 => ?_) (fun hc2 => ?_)
  ·
   rw [hc2, cond_true] at hY1
   refine T.skip_code ?_
   refine T.seq (T.block (T.seq (T.region (T.p2 (vi x1) (vi x1) (fun _ => by kernel_rfl) (T.nil (T.seq ?_))))))
   refine T.quiet (by kernel_rfl) (by kernel_rfl) ?_
   refine TQ.pure (.slice A1 p0.length c1) (by kernel_rfl) (fun _ => by kernel_rfl) ?_
   refine TQ.pure (vi x1) (by kernel_rfl) (fun _ => by kernel_rfl) ?_
   obtain ⟨e1, hb1, hY1⟩ := ob hY1
   obtain ⟨hi1, hi2, hi3⟩ := idx_some hb1
   refine TQ.look (.pointer (some ((sadr A1).add (x1.toNat * 1)))) (by kernel_rfl) (fun w' hh => exec_indexAddr (e := 9) (s := 1) rfl rfl rfl (by kernel_rfl) (by kernel_rfl) hi1 hi2 (hs1.some_ hi3 (by decide))) ?_
   refine TQ.look (.string e1) (by kernel_rfl) (fun w' hh => exec_load1 rfl rfl (by kernel_rfl) (hh.cell_view (SlOk.cellF0 (E := eStr) hs1 hi3 (fun _ _ _ h => h) rfl))) ?_
   refine TQ.pure (.slice A2 p1.length c2) (by kernel_rfl) (fun _ => by kernel_rfl) ?_
   refine TQ.pure (vi x1) (by kernel_rfl) (fun _ => by kernel_rfl) ?_
   obtain ⟨e2, hb2, hY1⟩ := ob hY1
   obtain ⟨hi4, hi5, hi6⟩ := idx_some hb2
   refine TQ.look (.pointer (some ((sadr A2).add (x1.toNat * 1)))) (by kernel_rfl) (fun w' hh => exec_indexAddr (e := 9) (s := 1) rfl rfl rfl (by kernel_rfl) (by kernel_rfl) hi4 hi5 (hs2.some_ hi6 (by decide))) ?_
   refine TQ.look (.string e2) (by kernel_rfl) (fun w' hh => exec_load1 rfl rfl (by kernel_rfl) (hh.cell_view (SlOk.cellF0 (E := eStr) hs2 hi6 (fun _ _ _ h => h) rfl))) ?_
   refine TQ.pure (.bool (!(seq e1 e2))) (by kernel_rfl) (fun _ => by kernel_rfl) ?_
   refine TQ.nil ?_
   refine T.cond (!(seq e1 e2)) (by kernel_rfl) (by kernel_rfl) (fun hc3 => ?_) (fun hc3 => ?_)
   ·
    rw [hc3, cond_true] at hY1
    refine T.seq (T.region (T.pk (.bool false) (fun _ => by kernel_rfl) (T.nil ?_)))
    cases hY1
    cases (hr1 _ rfl)
    try dsimp only at hF
    cases hF
    refine T.ret rfl ?_
    exact T.ret1 rfl (ResIs.tmp rfl) fun w' hh => ⟨_, rfl, hh.below, (show _ from rfl)⟩
   rw [hc3, cond_false] at hY1
   refine T.skip_code ?_
   refine T.region (T.p2 (vi (IntKind.i64.wrap (x1 + 1))) (vi (IntKind.i64.wrap (x1 + 1))) (fun _ => by kernel_rfl) (T.nil ?_))
   cases hY1
   exact fun a w' hf hh => ⟨(IntKind.i64.wrap (x1 + 1)), rfl, (Fr.sel hf rfl), (hh.sub List.Sublist.slnil)⟩
  rw [hc2, cond_false] at hY1
  refine T.exit ?_
  cases hY1
  cases (hr1 _ rfl)
  exact fun a w' hf hh => ⟨rfl, (Fr.nil hf), (hh.sub List.Sublist.slnil)⟩
 rintro a w' ⟨rfl, hf, hh⟩
 try dsimp only at hF
 refine (?_ : T 26 w (vw w) [] [] _) a w' hf hh
 clear hf hh
 refine T.seq (T.region (T.pk (.bool true) (fun _ => by kernel_rfl) (T.nil ?_)))
 cases hF
 refine T.ret rfl ?_
 exact T.ret1 rfl (ResIs.tmp rfl) fun w' hh => ⟨_, rfl, hh.below, (show _ from rfl)⟩
end Go.Proofs.YtacjdfhllomccaaGreatDoor
/- Pure functions, written by walkgen.py out of the Go functions of group Eqs. Their conditions: none. -/
namespace Go.Proofs.YtacjdfhllomccaaGreatDoor
set_option linter.unusedVariables false
def slices_Equal_Elem (F : Nat) (p0 : (List DElem)) (p1 : (List DElem)) : Option (Bool) :=
 bif ((p0.length : Int) != (p1.length : Int)) then
  some false
 else
  (iter (σ := Int) (ρ := (Unit) ⊕ Bool) (fun x1 =>
   bif decide (x1 < (p0.length : Int)) then
    (idx p0 x1).bind fun e1 =>
    (idx p1 x1).bind fun e2 =>
    bif (!(e1 == e2)) then
     some (.inr (.inr false))
    else
     some (.inl (IntKind.i64.wrap (x1 + 1)))
    else
     some (.inr (.inl ()))) F 0).bind fun z => match z with
   | .inl _ =>
    some true
   | .inr q => some q
end Go.Proofs.YtacjdfhllomccaaGreatDoor
/- The Go functions of group Eqs compute the pure functions of that group: written by walkgen.py. Condition of each: the pure function yields a result. -/
namespace Go.Proofs.YtacjdfhllomccaaGreatDoor
set_option linter.unusedVariables false
set_option maxRecDepth 100000 in
set_option maxHeartbeats 4000000 in
theorem slices_Equal_Elem_l (F : Nat) (p0 : (List DElem)) (p1 : (List DElem)) (r : Bool) (hF : slices_Equal_Elem F p0 p1 = some r) (w : World) (A1 : Option Addr) (c1 : Nat) (hs1 : SlOk (vw w) eElem A1 c1 p0) (A2 : Option Addr) (c2 : Nat) (hs2 : SlOk (vw w) eElem A2 c2 p1) :
 Calls Tryz.prog 27 #[.slice A1 p0.length c1, .slice A2 p1.length c2] w (Post (vSc eBool) r w) := by
 unfold slices_Equal_Elem at hF
 refine T.start (l := [.slice A1 p0.length c1, .slice A2 p1.length c2]) Tryz.func27 rfl rfl rfl ?_
 refine T.seq (T.region (T.pk (.bool false) (fun _ => by kernel_rfl) (T.nil (T.seq (T.seq (T.region (T.p5 (.slice A1 p0.length c1) (vi (p0.length : Int)) (.slice A2 p1.length c2) (vi (p1.length : Int)) (.bool ((p0.length : Int) != (p1.length : Int))) (fun _ => by kernel_rfl) (T.nil ?_))))))))
 refine T.cond ((p0.length : Int) != (p1.length : Int)) (by kernel_rfl) (by kernel_rfl) (fun hc1 => ?_) (fun hc1 => ?_)
 ·
  rw [hc1, cond_true] at hF
  refine T.seq (T.region (T.pk (.bool false) (fun _ => by kernel_rfl) (T.nil ?_)))
  cases hF
  refine T.ret rfl ?_
  exact T.ret1 rfl (ResIs.tmp rfl) fun w' hh => ⟨_, rfl, hh.below, (show _ from rfl)⟩
 rw [hc1, cond_false] at hF
 refine T.skip_code ?_
 refine T.seq (T.seq (T.region (T.p3 (.slice A1 p0.length c1) (vi (p0.length : Int)) (vi 0) (fun _ => by kernel_rfl) (T.nil ?_))))
 obtain ⟨q1, hz1, hF⟩ := ob hF
 refine T.mid (fun a w' => q1 = Sum.inl () ∧ Fr 26 [] a ∧ Hp w (vw w) [] w') ?_ ?_
 ·
  refine T.block ?_
  refine T.iter (fun x1 a w' => Fr 26 [(0, .slice A1 p0.length c1), (1, .slice A2 p1.length c2), (12, vi (p0.length : Int)), (13, vi x1)] a ∧ Hp w (vw w) [] w') hz1 ?_ ?_
  ·
   exact fun a w' hf hh => ⟨(Fr.sel hf rfl), (hh.sub List.Sublist.slnil)⟩
  rintro x1 y1 hY1 hr1 a w' ⟨hf, hh⟩
  refine (?_ : T 26 w (vw w) [] [(0, .slice A1 p0.length c1), (1, .slice A2 p1.length c2), (12, vi (p0.length : Int)), (13, vi x1)] _) a w' hf hh
  clear hf hh
  try dsimp only at hY1
  refine T.seq (T.region (T.pk (.bool (decide (x1 < (p0.length : Int)))) (fun _ => by kernel_rfl) (T.nil (T.seq ?_))))
  refine T.cond (decide (x1 < (p0.length : Int))) (by kernel_rfl) (by kernel_rfl) (fun hc2 => ?_) (fun hc2 => ?_)
  ·
   rw [hc2, cond_true] at hY1
   refine T.skip_code ?_
   refine T.seq (T.block (T.seq (T.region (T.p2 (vi x1) (vi x1) (fun _ => by kernel_rfl) (T.nil (T.seq ?_))))))
   refine T.quiet (by kernel_rfl) (by kernel_rfl) ?_
   refine TQ.pure (.slice A1 p0.length c1) (by kernel_rfl) (fun _ => by kernel_rfl) ?_
   refine TQ.pure (vi x1) (by kernel_rfl) (fun _ => by kernel_rfl) ?_
   obtain ⟨e1, hb1, hY1⟩ := ob hY1
   obtain ⟨hi1, hi2, hi3⟩ := idx_some hb1
   refine TQ.look (.pointer (some ((sadr A1).add (x1.toNat * 6)))) (by kernel_rfl) (fun w' hh => exec_indexAddr (e := 44) (s := 6) rfl rfl rfl (by kernel_rfl) (by kernel_rfl) hi1 hi2 (hs1.some_ hi3 (by decide))) ?_
   refine TQ.look (.agg #[vi e1.key.pfs, vi e1.key.obj, vi e1.key.off, vi e1.made, vi e1.gone, .string e1.val]) (by kernel_rfl) (fun w' hh => exec_loadN (cs := [vi e1.key.pfs, vi e1.key.obj, vi e1.key.off, vi e1.made, vi e1.gone, .string e1.val]) rfl rfl (by kernel_rfl) (by kernel_rfl) (fun j u hj => (hh.cell_view (SlOk.cellF (E := eElem) hs1 hi3 j (fun _ _ _ h => h) hj)))) ?_
   refine TQ.pure (.slice A2 p1.length c2) (by kernel_rfl) (fun _ => by kernel_rfl) ?_
   refine TQ.pure (vi x1) (by kernel_rfl) (fun _ => by kernel_rfl) ?_
   obtain ⟨e2, hb2, hY1⟩ := ob hY1
   obtain ⟨hi4, hi5, hi6⟩ := idx_some hb2
   refine TQ.look (.pointer (some ((sadr A2).add (x1.toNat * 6)))) (by kernel_rfl) (fun w' hh => exec_indexAddr (e := 44) (s := 6) rfl rfl rfl (by kernel_rfl) (by kernel_rfl) hi4 hi5 (hs2.some_ hi6 (by decide))) ?_
   refine TQ.look (.agg #[vi e2.key.pfs, vi e2.key.obj, vi e2.key.off, vi e2.made, vi e2.gone, .string e2.val]) (by kernel_rfl) (fun w' hh => exec_loadN (cs := [vi e2.key.pfs, vi e2.key.obj, vi e2.key.off, vi e2.made, vi e2.gone, .string e2.val]) rfl rfl (by kernel_rfl) (by kernel_rfl) (fun j u hj => (hh.cell_view (SlOk.cellF (E := eElem) hs2 hi6 j (fun _ _ _ h => h) hj)))) ?_
   refine TQ.look (.bool (!(e1 == e2))) (by kernel_rfl) (fun w' hh => exec_neq_DElem e1 e2 w' rfl rfl rfl) ?_
   refine TQ.nil ?_
   refine T.cond (!(e1 == e2)) (by kernel_rfl) (by kernel_rfl) (fun hc3 => ?_) (fun hc3 => ?_)
   ·
    rw [hc3, cond_true] at hY1
    refine T.seq (T.region (T.pk (.bool false) (fun _ => by kernel_rfl) (T.nil ?_)))
    cases hY1
    cases (hr1 _ rfl)
    try dsimp only at hF
    cases hF
    refine T.ret rfl ?_
    exact T.ret1 rfl (ResIs.tmp rfl) fun w' hh => ⟨_, rfl, hh.below, (show _ from rfl)⟩
   rw [hc3, cond_false] at hY1
   refine T.skip_code ?_
   refine T.region (T.p2 (vi (IntKind.i64.wrap (x1 + 1))) (vi (IntKind.i64.wrap (x1 + 1))) (fun _ => by kernel_rfl) (T.nil ?_))
   cases hY1
   exact fun a w' hf hh => ⟨(IntKind.i64.wrap (x1 + 1)), rfl, (Fr.sel hf rfl), (hh.sub List.Sublist.slnil)⟩
  rw [hc2, cond_false] at hY1
  refine T.exit ?_
  cases hY1
  cases (hr1 _ rfl)
  exact fun a w' hf hh => ⟨rfl, (Fr.nil hf), (hh.sub List.Sublist.slnil)⟩
 rintro a w' ⟨rfl, hf, hh⟩
 try dsimp only at hF
 refine (?_ : T 26 w (vw w) [] [] _) a w' hf hh
 clear hf hh
 refine T.seq (T.region (T.pk (.bool true) (fun _ => by kernel_rfl) (T.nil ?_)))
 cases hF
 refine T.ret rfl ?_
 exact T.ret1 rfl (ResIs.tmp rfl) fun w' hh => ⟨_, rfl, hh.below, (show _ from rfl)⟩
end Go.Proofs.YtacjdfhllomccaaGreatDoor
/- Pure functions, written by walkgen.py out of the Go functions of group WFsOwn. Their conditions: none. -/
namespace Go.Proofs.YtacjdfhllomccaaGreatDoor
set_option linter.unusedVariables false
def annalkeep_FsOwn (F : Nat) (p0 : (List (List Int))) (p1 : (List ByteArray)) (p2 : (List ByteArray)) : Option (Bool) :=
 (fs_FS_Write_fr F [(DElem.mk (DKey.mk 0 1 0) 1 0 (ByteArray.mk #[100]))] 1 2 (ByteArray.mk #[47, 97]) (ByteArray.mk #[120])).bind fun r2 =>
 bif (r2.2.2.2 != 0) then
  some false
 else
  (lslice p0 0 (if (20 : Int) < (p0.length : Int) then 20 else (p0.length : Int))).bind fun s1 =>
  (
   (iter (σ := (List DElem) × Int × Int × Int) (ρ := (List DElem) × Int × Int) (fun x => match x with
    | (x1, x2, x3, x4) =>
     bif decide (x4 < (s1.length : Int)) then
      (idx s1 x4).bind fun e1 =>
      (annalkeep_act_fr F x1 x2 x3 e1 p1 p2).bind fun r5 =>
      some (.inl (r5.1, r5.2.1, r5.2.2.1, IntKind.i64.wrap (x4 + 1)))
      else
       some (.inr (x1, x2, x3))) F ([(DElem.mk (DKey.mk 0 1 0) 1 0 (ByteArray.mk #[100]))], 1, 2, 0)).bind fun z => match z with
    | (z4, z5, z6) =>
     some (z4, z5, z6) : Option ((List DElem) × Int × Int)).bind fun z => match z with
   | (z1, z2, z3) =>
    (iter (σ := (List DElem) × Int × Int × Int) (ρ := (List DElem) × Int × Int) (fun x => match x with
     | (x5, x6, x7, x8) =>
      bif decide (x8 < (s1.length : Int)) then
       (idx s1 x8).bind fun e2 =>
       (annalkeep_act_fr F x5 x6 x7 e2 p1 p2).bind fun r6 =>
       (
        (grow 56 ([] : List DElem) r6.1).bind fun _ =>
         some () : Option (Unit)).bind fun _ =>
       (fs_FS_List_fr F r6.1 r6.2.1 r6.2.2.1 (ByteArray.mk #[47]) r6.2.1).bind fun r9 =>
       some (.inl (r6.1, r6.2.1, r6.2.2.1, IntKind.i64.wrap (x8 + 1)))
       else
        some (.inr (x5, x6, x7))) F ([(DElem.mk (DKey.mk 0 1 0) 1 0 (ByteArray.mk #[100]))], 1, 2, 0)).bind fun z => match z with
     | (z7, z8, z9) =>
      (
       bif (z8 == z2) then
        (
         (grow 56 ([] : List DElem) z7).bind fun _ =>
          some () : Option (Unit)).bind fun _ =>
        (
         (grow 56 ([] : List DElem) z1).bind fun _ =>
          some () : Option (Unit)).bind fun _ =>
        (slices_Equal_Elem F (([] : List DElem) ++ z7) (([] : List DElem) ++ z1)).bind fun r13 =>
        bif r13 then
         (
          (fs_FS_Kind_fr F z7 z8 z9 (ByteArray.mk #[47]) z8).bind fun r14 =>
           (fs_FS_Read_fr F z7 z8 z9 (ByteArray.mk #[47]) z8).bind fun r15 =>
           (fs_FS_List_fr F z7 z8 z9 (ByteArray.mk #[47]) z8).bind fun r16 =>
           (annalref_Dec r14.2).bind fun r17 =>
           (annalref_Dec r15.2).bind fun r18 =>
           (annalref_Dec r16.2).bind fun r19 =>
           (grow 16 ([] : List ByteArray) [r14.1, r15.1, r17, r18, r19]).bind fun _ =>
           (grow 16 (([] : List ByteArray) ++ [r14.1, r15.1, r17, r18, r19]) r16.1).bind fun _ =>
           some ((([] : List ByteArray) ++ [r14.1, r15.1, r17, r18, r19]) ++ r16.1) : Option ((List ByteArray))).bind fun z11 =>
         (
          (fs_FS_Kind_fr F z1 z2 z3 (ByteArray.mk #[47]) z2).bind fun r21 =>
           (fs_FS_Read_fr F z1 z2 z3 (ByteArray.mk #[47]) z2).bind fun r22 =>
           (fs_FS_List_fr F z1 z2 z3 (ByteArray.mk #[47]) z2).bind fun r23 =>
           (annalref_Dec r21.2).bind fun r24 =>
           (annalref_Dec r22.2).bind fun r25 =>
           (annalref_Dec r23.2).bind fun r26 =>
           (grow 16 ([] : List ByteArray) [r21.1, r22.1, r24, r25, r26]).bind fun _ =>
           (grow 16 (([] : List ByteArray) ++ [r21.1, r22.1, r24, r25, r26]) r23.1).bind fun _ =>
           some ((([] : List ByteArray) ++ [r21.1, r22.1, r24, r25, r26]) ++ r23.1) : Option ((List ByteArray))).bind fun z12 =>
         (slices_Equal_string F z11 z12).bind fun r28 =>
         some r28
        else
         some false
        else
         some false : Option (Bool)).bind fun z10 =>
      some z10
end Go.Proofs.YtacjdfhllomccaaGreatDoor
/- The Go functions of group WFsOwn compute the pure functions of that group: written by walkgen.py. Condition of each: the pure function yields a result. -/
namespace Go.Proofs.YtacjdfhllomccaaGreatDoor
set_option linter.unusedVariables false
set_option maxRecDepth 100000 in
set_option maxHeartbeats 4000000 in
theorem annalkeep_FsOwn_l (F : Nat) (p0 : (List (List Int))) (p1 : (List ByteArray)) (p2 : (List ByteArray)) (r : Bool) (hF : annalkeep_FsOwn F p0 p1 p2 = some r) (w : World) (hGl : Glob w) (A1 : Option Addr) (c1 : Nat) (hs1 : SlOk (vw w) (eList eInt) A1 c1 p0) (A2 : Option Addr) (c2 : Nat) (hs2 : SlOk (vw w) eStr A2 c2 p1) (A3 : Option Addr) (c3 : Nat) (hs3 : SlOk (vw w) eStr A3 c3 p2) :
 Calls Tryz.prog 10 #[.slice A1 p0.length c1, .slice A2 p1.length c2, .slice A3 p2.length c3] w (Post (vSc eBool) r w) := by
 unfold annalkeep_FsOwn at hF
 refine T.start (l := [.slice A1 p0.length c1, .slice A2 p1.length c2, .slice A3 p2.length c3]) Tryz.func10 rfl rfl rfl ?_
 refine T.seq (T.region (T.pk (.bool false) (fun _ => by kernel_rfl) (T.nil (T.seq (T.region ?_)))))
 let v37_ : List Value := [vi 0, vi 1, vi 0, vi 1, vi 0, .string (ByteArray.mk #[100])]
 refine T.step (W1.within 15 [] (fun v w' => ∃ (b3 : Nat) (b2 : Nat), v = pB b3 0 ∧ Hp w (vw w) ((box b3 78 [.slice (some ⟨b2, 0, none⟩) 1 1, vi 1, vi 2]) :: (box b2 44 v37_) :: []) w') Tryz.func15 rfl rfl (by kernel_rfl) (fun _ => by kernel_rfl) rfl ?_ ?_)
 ·
  refine T.seq (T.region (T.pk (.pointer none) (fun _ => by kernel_rfl) (T.nil (T.seq (T.region (T.step (W1.within 50 [vi 1] (fun v w' => v = .agg #[vi 0, vi 1, vi 0] ∧ Hp w (vw w) [] w') Tryz.func50 rfl rfl (by kernel_rfl) (fun _ => by kernel_rfl) rfl ?_ ?_)))))))
  ·
   refine T.seq (T.region (T.step (W1.np 42 [vi 0, vi 0, vi 0] (fun _ => by kernel_rfl) (fun b1 => ?_))))
   refine T.nil (T.seq (T.region (T.p2 (vi 1) (.agg #[vi 0, vi 1, vi 0]) (fun _ => by kernel_rfl) ?_)))
   let v38_ : List Value := [vi 0, vi 1, vi 0]
   refine T.step (W1.st 0 v38_ ((box b1 42 v38_) :: []) v38_ (by rfl) rfl rfl rfl rfl rfl rfl (fun _ => by kernel_rfl) ?_)
   refine T.nil ?_
   refine T.ret rfl ?_
   exact T.ret1 rfl (ResIs.cellN 0 rfl (by rfl) (fun _ => by kernel_rfl) (fun _ => by kernel_rfl)) fun w' hh => ⟨_, rfl, ⟨rfl, (hh.sub (dr1 kp0))⟩⟩
  rintro v w' ⟨rfl, hh⟩
  refine ⟨(vw w), [], hh, ?_⟩
  clear hh
  refine T.pk (.agg #[vi 0, vi 1, vi 0, vi 1, vi 0, .string (ByteArray.mk #[100])]) (fun _ => by kernel_rfl) (T.step (W1.ns 44 v37_ (fun _ => by kernel_rfl) (fun b2 => ?_)))
  refine T.pk (.agg #[.slice (some ⟨b2, 0, none⟩) 1 1, vi 1, vi 2]) (fun _ => by kernel_rfl) (T.step (W1.np 78 [.slice (some ⟨b2, 0, none⟩) 1 1, vi 1, vi 2] (fun _ => by kernel_rfl) (fun b3 => ?_)))
  refine T.pk (pB b3 0) (fun _ => by kernel_rfl) (T.nil ?_)
  refine T.ret rfl ?_
  exact T.ret1 rfl (ResIs.tmp rfl) fun w' hh => ⟨_, rfl, ⟨b3, b2, rfl, (hh.sub (kp1 (kp1 kp0)))⟩⟩
 rintro v w' ⟨b3, b2, rfl, hh⟩
 let i1_ : HObj := box b3 78 [.slice (some ⟨b2, 0, none⟩) 1 1, vi 1, vi 2]
 refine ⟨(vw w), (i1_ :: (box b2 44 v37_) :: []), hh, ?_⟩
 clear hh
 refine T.pk (pB b3 0) (fun _ => by kernel_rfl) (T.nil (T.seq (T.seq (T.region (T.p4 (pB b3 0) (.bool false) (.bool false) (pB b3 0) (fun _ => by kernel_rfl) ?_)))))
 refine T.litrow (E := eElem) (f := DElem.cells) (l := [(DElem.mk (DKey.mk 0 1 0) 1 0 (ByteArray.mk #[100]))]) 1 _ (by rfl) (fun _ _ => rfl) (Nat.succ_pos _) (Nat.le_of_ble_eq_true (by rfl)) rfl ?_
 refine T.reH (H' := (i1_ :: (row 44 eElem (some ⟨b2, 0, none⟩) ([(DElem.mk (DKey.mk 0 1 0) 1 0 (ByteArray.mk #[100]))].length) [(DElem.mk (DKey.mk 0 1 0) 1 0 (ByteArray.mk #[100]))]) :: [])) (by rfl) ?_
 refine T.freezeF (E := eElem) (H' := ((box b3 78 [.slice (some ⟨b2, 0, none⟩) ([(DElem.mk (DKey.mk 0 1 0) 1 0 (ByteArray.mk #[100]))].length) ([(DElem.mk (DKey.mk 0 1 0) 1 0 (ByteArray.mk #[100]))].length), vi 1, vi 2]) :: [])) 1 (by rfl) rfl (fun _ _ _ _ h => h) (fun V1 hV1 hs4 => ?_)
 obtain ⟨r2, hb1, hF⟩ := ob hF
 refine T.step (W1.callI 23 [pB b3 0, .string (ByteArray.mk #[47, 97]), .string (ByteArray.mk #[120])] (fun v w' => ∃ (A4 : Option Addr) (c4 : Nat) (V2 : View), View.le V1 V2 ∧ SlOk V2 eElem A4 c4 r2.1 ∧ v = vi r2.2.2.2 ∧ Hp w V2 ((box b3 78 [.slice A4 r2.1.length c4, vi r2.2.1, vi r2.2.2.1]) :: []) w') (by kernel_rfl) (fun _ => by kernel_rfl) (fun w' hh => fs_FS_Write_fr_l F [(DElem.mk (DKey.mk 0 1 0) 1 0 (ByteArray.mk #[100]))] 1 2 (ByteArray.mk #[47, 97]) (ByteArray.mk #[120]) r2 hb1 w hGl b3 (some ⟨b2, 0, none⟩) ([(DElem.mk (DKey.mk 0 1 0) 1 0 (ByteArray.mk #[100]))].length) V1 [] w' (SlOk.mono hs4 (vt (made_le _ _) vr)) (hh.sub (kp1 kp0))) ?_)
 rintro v w' ⟨A4, c4, V2, hV2, hs5, rfl, hh⟩
 refine ⟨_, _, hh, ?_⟩
 clear hh
 refine T.p2 (.bool (r2.2.2.2 != 0)) (.bool (r2.2.2.2 != 0)) (fun _ => by kernel_rfl) (T.nil ?_)
 refine T.cond (r2.2.2.2 != 0) (by kernel_rfl) (by kernel_rfl) (fun hc1 => ?_) (fun hc1 => ?_)
 ·
  rw [hc1, cond_true] at hF
  refine T.seq (T.region (T.pk (.bool false) (fun _ => by kernel_rfl) (T.nil ?_)))
  cases hF
  refine T.ret rfl ?_
  exact T.ret1 rfl (ResIs.tmp rfl) fun w' hh => ⟨_, rfl, hh.below, (show _ from rfl)⟩
 rw [hc1, cond_false] at hF
 refine T.skip_code ?_
 refine T.seq (T.region (T.p4 (.slice A1 p0.length c1) (.slice A1 p0.length c1) (vi (p0.length : Int)) (vi (if (20 : Int) < (p0.length : Int) then 20 else (p0.length : Int))) (fun _ => by kernel_rfl) ?_))
 obtain ⟨s1, hb2, hF⟩ := ob hF
 refine T.look (.slice A1 s1.length c1) (by kernel_rfl) (fun w' hh => exec_slice_list0 (e := 55) (s := 1) (lx := none) (hx := (some _)) (k := .i64) (k' := .i64) rfl rfl (by kernel_rfl) (by kernel_rfl) ((SlOk.mono hs1 (vt hV1 hV2))).1 rfl rfl hb2) ?_
 refine T.pk (.slice A1 s1.length c1) (fun _ => by kernel_rfl) (T.nil (T.seq (T.region ?_)))
 let i2_ : HObj := box b3 78 [.slice A4 r2.1.length c4, vi r2.2.1, vi r2.2.2.1]
 refine T.step (W1.within 15 [] (fun v w' => ∃ (b6 : Nat) (b5 : Nat) (A5 : Option Addr) (c5 : Nat) (V3 : View), View.le V2 V3 ∧ SlOk V3 (eList eInt) A5 c5 s1 ∧ v = pB b6 0 ∧ Hp w V3 ((box b6 78 [.slice (some ⟨b5, 0, none⟩) 1 1, vi 1, vi 2]) :: (box b5 44 v37_) :: i2_ :: []) w') Tryz.func15 rfl rfl (by kernel_rfl) (fun _ => by kernel_rfl) rfl ?_ ?_)
 ·
  refine T.seq (T.region (T.pk (.pointer none) (fun _ => by kernel_rfl) (T.nil (T.seq (T.region (T.step (W1.within 50 [vi 1] (fun v w' => v = .agg #[vi 0, vi 1, vi 0] ∧ Hp w V2 (i2_ :: []) w') Tryz.func50 rfl rfl (by kernel_rfl) (fun _ => by kernel_rfl) rfl ?_ ?_)))))))
  ·
   refine T.seq (T.region (T.step (W1.np 42 [vi 0, vi 0, vi 0] (fun _ => by kernel_rfl) (fun b4 => ?_))))
   refine T.nil (T.seq (T.region (T.p2 (vi 1) (.agg #[vi 0, vi 1, vi 0]) (fun _ => by kernel_rfl) ?_)))
   let v39_ : List Value := [vi 0, vi 1, vi 0]
   refine T.step (W1.st 0 v39_ ((box b4 42 v39_) :: i2_ :: []) v39_ (by rfl) rfl rfl rfl rfl rfl rfl (fun _ => by kernel_rfl) ?_)
   refine T.nil ?_
   refine T.ret rfl ?_
   exact T.ret1 rfl (ResIs.cellN 0 rfl (by rfl) (fun _ => by kernel_rfl) (fun _ => by kernel_rfl)) fun w' hh => ⟨_, rfl, ⟨rfl, (hh.sub (dr1 (kp1 kp0)))⟩⟩
  rintro v w' ⟨rfl, hh⟩
  refine ⟨V2, (i2_ :: []), hh, ?_⟩
  clear hh
  refine T.pk (.agg #[vi 0, vi 1, vi 0, vi 1, vi 0, .string (ByteArray.mk #[100])]) (fun _ => by kernel_rfl) (T.step (W1.ns 44 v37_ (fun _ => by kernel_rfl) (fun b5 => ?_)))
  refine T.pk (.agg #[.slice (some ⟨b5, 0, none⟩) 1 1, vi 1, vi 2]) (fun _ => by kernel_rfl) (T.step (W1.np 78 [.slice (some ⟨b5, 0, none⟩) 1 1, vi 1, vi 2] (fun _ => by kernel_rfl) (fun b6 => ?_)))
  refine T.pk (pB b6 0) (fun _ => by kernel_rfl) (T.nil ?_)
  refine T.ret rfl ?_
  exact T.ret1 rfl (ResIs.tmp rfl) fun w' hh => ⟨_, rfl, ⟨b6, b5, A1, c1, V2, vr, (SlOk.cut0 (SlOk.mono hs1 (vt hV1 hV2)) hb2), rfl, (hh.sub (kp2 (kp1 kp0)))⟩⟩
 rintro v w' ⟨b6, b5, A5, c5, V3, hV3, hs6, rfl, hh⟩
 let i3_ : HObj := box b6 78 [.slice (some ⟨b5, 0, none⟩) 1 1, vi 1, vi 2]
 let i4_ : HObj := box b5 44 v37_
 let t5_ : List HObj := i4_ :: i2_ :: []
 let t6_ : List HObj := i3_ :: t5_
 refine ⟨V3, t6_, hh, ?_⟩
 clear hh
 refine T.p3 (.slice A1 s1.length c1) (.slice A2 p1.length c2) (.slice A3 p2.length c3) (fun _ => by kernel_rfl) ?_
 obtain ⟨q1, hX1, hF⟩ := ob hF
 refine T.step (W1.within 18 [.slice A1 s1.length c1, .slice A2 p1.length c2, .slice A3 p2.length c3] (fun v w' => ∃ (z1 : List DElem) (z2 : Int) (z3 : Int), q1 = (z1, z2, z3) ∧ ∃ (b9 : Nat) (A6 : Option Addr) (c6 : Nat) (A7 : Option Addr) (c7 : Nat) (A8 : Option Addr) (c8 : Nat) (A9 : Option Addr) (c9 : Nat) (V4 : View), View.le V3 V4 ∧ SlOk V4 eElem A6 c6 z1 ∧ SlOk (made w V4) eElem A7 c7 [(DElem.mk (DKey.mk 0 1 0) 1 0 (ByteArray.mk #[100]))] ∧ SlOk V4 (eList eInt) A8 c8 s1 ∧ SlOk V4 (eList eInt) A9 c9 s1 ∧ v = pB b9 0 ∧ Hp w V4 ((box b9 78 [.slice A6 z1.length c6, vi z2, vi z3]) :: (box b6 78 [.slice A7 ([(DElem.mk (DKey.mk 0 1 0) 1 0 (ByteArray.mk #[100]))].length) c7, vi 1, vi 2]) :: i2_ :: []) w') Tryz.func18 rfl rfl (by kernel_rfl) (fun _ => by kernel_rfl) rfl ?_ ?_)
 ·
  refine T.seq (T.region (T.pk (.pointer none) (fun _ => by kernel_rfl) (T.nil (T.seq (T.region (T.step (W1.within 15 [] (fun v w' => ∃ (b9 : Nat) (b8 : Nat) (A10 : Option Addr) (c10 : Nat) (V5 : View), View.le V3 V5 ∧ SlOk V5 (eList eInt) A10 c10 s1 ∧ v = pB b9 0 ∧ Hp w V5 ((box b9 78 [.slice (some ⟨b8, 0, none⟩) 1 1, vi 1, vi 2]) :: (box b8 44 v37_) :: t6_) w') Tryz.func15 rfl rfl (by kernel_rfl) (fun _ => by kernel_rfl) rfl ?_ ?_)))))))
  ·
   refine T.seq (T.region (T.pk (.pointer none) (fun _ => by kernel_rfl) (T.nil (T.seq (T.region (T.step (W1.within 50 [vi 1] (fun v w' => v = .agg #[vi 0, vi 1, vi 0] ∧ Hp w V3 t6_ w') Tryz.func50 rfl rfl (by kernel_rfl) (fun _ => by kernel_rfl) rfl ?_ ?_)))))))
   ·
    refine T.seq (T.region (T.step (W1.np 42 [vi 0, vi 0, vi 0] (fun _ => by kernel_rfl) (fun b7 => ?_))))
    refine T.nil (T.seq (T.region (T.p2 (vi 1) (.agg #[vi 0, vi 1, vi 0]) (fun _ => by kernel_rfl) ?_)))
    let v40_ : List Value := [vi 0, vi 1, vi 0]
    refine T.step (W1.st 0 v40_ ((box b7 42 v40_) :: t6_) v40_ (by rfl) rfl rfl rfl rfl rfl rfl (fun _ => by kernel_rfl) ?_)
    refine T.nil ?_
    refine T.ret rfl ?_
    exact T.ret1 rfl (ResIs.cellN 0 rfl (by rfl) (fun _ => by kernel_rfl) (fun _ => by kernel_rfl)) fun w' hh => ⟨_, rfl, ⟨rfl, (hh.sub (dr1 (kp2 (kp1 kp0))))⟩⟩
   rintro v w' ⟨rfl, hh⟩
   refine ⟨V3, t6_, hh, ?_⟩
   clear hh
   refine T.pk (.agg #[vi 0, vi 1, vi 0, vi 1, vi 0, .string (ByteArray.mk #[100])]) (fun _ => by kernel_rfl) (T.step (W1.ns 44 v37_ (fun _ => by kernel_rfl) (fun b8 => ?_)))
   refine T.pk (.agg #[.slice (some ⟨b8, 0, none⟩) 1 1, vi 1, vi 2]) (fun _ => by kernel_rfl) (T.step (W1.np 78 [.slice (some ⟨b8, 0, none⟩) 1 1, vi 1, vi 2] (fun _ => by kernel_rfl) (fun b9 => ?_)))
   refine T.pk (pB b9 0) (fun _ => by kernel_rfl) (T.nil ?_)
   refine T.ret rfl ?_
   exact T.ret1 rfl (ResIs.tmp rfl) fun w' hh => ⟨_, rfl, ⟨b9, b8, A1, c1, V3, vr, (SlOk.cut0 (SlOk.mono hs1 (vt (vt hV1 hV2) hV3)) hb2), rfl, (hh.sub (kp4 (kp1 kp0)))⟩⟩
  rintro v w' ⟨b9, b8, A10, c10, V5, hV5, hs11, rfl, hh⟩
  let i7_ : HObj := box b9 78 [.slice (some ⟨b8, 0, none⟩) 1 1, vi 1, vi 2]
  refine ⟨V5, (i7_ :: (box b8 44 v37_) :: t6_), hh, ?_⟩
  clear hh
  refine T.pk (pB b9 0) (fun _ => by kernel_rfl) (T.nil (T.seq (T.seq (T.region (T.p2 (pB b9 0) (.bool false) (fun _ => by kernel_rfl) (T.nil ?_))))))
  refine T.cond false (by kernel_rfl) (by kernel_rfl) (fun h => Bool.noConfusion h) (fun _ => ?_)
  refine T.skip_code ?_
  refine T.seq (T.seq (T.region (T.p3 (.slice A1 s1.length c1) (vi (s1.length : Int)) (vi 0) (fun _ => by kernel_rfl) (T.nil ?_))))
  refine T.litrow (E := eElem) (f := DElem.cells) (l := [(DElem.mk (DKey.mk 0 1 0) 1 0 (ByteArray.mk #[100]))]) 1 _ (by rfl) (fun _ _ => rfl) (Nat.succ_pos _) (Nat.le_of_ble_eq_true (by rfl)) rfl ?_
  refine T.reH (H' := (i7_ :: (row 44 eElem (some ⟨b8, 0, none⟩) ([(DElem.mk (DKey.mk 0 1 0) 1 0 (ByteArray.mk #[100]))].length) [(DElem.mk (DKey.mk 0 1 0) 1 0 (ByteArray.mk #[100]))]) :: t6_)) (by rfl) ?_
  let i8_ : HObj := box b9 78 [.slice (some ⟨b8, 0, none⟩) ([(DElem.mk (DKey.mk 0 1 0) 1 0 (ByteArray.mk #[100]))].length) ([(DElem.mk (DKey.mk 0 1 0) 1 0 (ByteArray.mk #[100]))].length), vi 1, vi 2]
  refine T.freezeF (E := eElem) (H' := (i8_ :: t6_)) 1 (by rfl) rfl (fun _ _ _ _ h => h) (fun V6 hV6 hs12 => ?_)
  refine T.litrow (E := eElem) (f := DElem.cells) (l := [(DElem.mk (DKey.mk 0 1 0) 1 0 (ByteArray.mk #[100]))]) 2 _ (by rfl) (fun _ _ => rfl) (Nat.succ_pos _) (Nat.le_of_ble_eq_true (by rfl)) rfl ?_
  refine T.reH (H' := (i8_ :: i3_ :: (row 44 eElem (some ⟨b5, 0, none⟩) ([(DElem.mk (DKey.mk 0 1 0) 1 0 (ByteArray.mk #[100]))].length) [(DElem.mk (DKey.mk 0 1 0) 1 0 (ByteArray.mk #[100]))]) :: i2_ :: [])) (by rfl) ?_
  let i9_ : HObj := box b6 78 [.slice (some ⟨b5, 0, none⟩) ([(DElem.mk (DKey.mk 0 1 0) 1 0 (ByteArray.mk #[100]))].length) ([(DElem.mk (DKey.mk 0 1 0) 1 0 (ByteArray.mk #[100]))].length), vi 1, vi 2]
  let t10_ : List HObj := i9_ :: i2_ :: []
  refine T.freezeF (E := eElem) (H' := (i8_ :: t10_)) 2 (by rfl) rfl (fun _ _ _ _ h => h) (fun V7 hV7 hs13 => ?_)
  obtain ⟨q2, hz1, hX1⟩ := ob hX1
  refine T.mid (fun a w' => ∃ (z4 : List DElem) (z5 : Int) (z6 : Int), q2 = (z4, z5, z6) ∧ ∃ (A13 : Option Addr) (c13 : Nat) (V9 : View), View.le V7 V9 ∧ SlOk V9 eElem A13 c13 z4 ∧ Fr 26 [(7, pB b9 0)] a ∧ Hp w V9 ((box b9 78 [.slice A13 z4.length c13, vi z5, vi z6]) :: t10_) w') ?_ ?_
  ·
   refine T.block ?_
   refine T.iter (fun s2 a w' => ∃ (x1 : List DElem) (x2 : Int) (x3 : Int) (x4 : Int), s2 = (x1, x2, x3, x4) ∧ ∃ (A11 : Option Addr) (c11 : Nat) (A12 : Option Addr) (c12 : Nat) (V8 : View), View.le V7 V8 ∧ SlOk V8 eElem A11 c11 x1 ∧ SlOk V8 (eList eInt) A12 c12 s1 ∧ Fr 26 [(1, .slice A2 p1.length c2), (2, .slice A3 p2.length c3), (7, pB b9 0), (13, .slice A12 s1.length c12), (14, vi (s1.length : Int)), (15, vi x4)] a ∧ Hp w V8 ((box b9 78 [.slice A11 x1.length c11, vi x2, vi x3]) :: t10_) w') hz1 ?_ ?_
   ·
    exact fun a w' hf hh => ⟨[(DElem.mk (DKey.mk 0 1 0) 1 0 (ByteArray.mk #[100]))], 1, 2, 0, rfl, (some ⟨b8, 0, none⟩), ([(DElem.mk (DKey.mk 0 1 0) 1 0 (ByteArray.mk #[100]))].length), A1, c1, V7, vr, (SlOk.mono hs12 (vt (made_le _ _) hV7)), (SlOk.cut0 (SlOk.mono hs1 (vt (vt (vt (vt (vt hV1 hV2) hV3) hV5) hV6) hV7)) hb2), (Fr.sel hf rfl), (hh.sub (kp2 (kp1 kp0)))⟩
   rintro s2 y1 hY1 hr1 a w' ⟨x1, x2, x3, x4, rfl, A11, c11, A12, c12, V8, hV8, hs14, hs15, hf, hh⟩
   refine (?_ : T 26 w V8 ((box b9 78 [.slice A11 x1.length c11, vi x2, vi x3]) :: t10_) [(1, .slice A2 p1.length c2), (2, .slice A3 p2.length c3), (7, pB b9 0), (13, .slice A12 s1.length c12), (14, vi (s1.length : Int)), (15, vi x4)] _) a w' hf hh
   clear hf hh
   try dsimp only at hY1
   refine T.seq (T.region (T.pk (.bool (decide (x4 < (s1.length : Int)))) (fun _ => by kernel_rfl) (T.nil (T.seq ?_))))
   refine T.cond (decide (x4 < (s1.length : Int))) (by kernel_rfl) (by kernel_rfl) (fun hc2 => ?_) (fun hc2 => ?_)
   ·
    rw [hc2, cond_true] at hY1
    refine T.skip_code ?_
    refine T.seq (T.block (T.seq (T.region ?_)))
    obtain ⟨e1, hb3, hY1⟩ := ob hY1
    obtain ⟨hi1, hi2, hi3⟩ := idx_some hb3
    obtain ⟨cs1, hr2, hc3⟩ := SlOk.elem hs15 hi3
    obtain ⟨A14, c14, rfl, hs17⟩ := hr2
    refine T.look (.pointer (some ((sadr A12).add (x4.toNat * 1)))) (by kernel_rfl) (fun w' hh => exec_indexAddr (e := 55) (s := 1) rfl rfl rfl (by kernel_rfl) (by kernel_rfl) hi1 hi2 (hs15.some_ hi3 (by decide))) ?_
    refine T.look (.slice A14 e1.length c14) (by kernel_rfl) (fun w' hh => exec_load1 rfl rfl (by kernel_rfl) (hh.cell_view (View.cell_mono vr (hc3 0 _ rfl).2))) ?_
    refine T.pk (.slice A14 e1.length c14) (fun _ => by kernel_rfl) (T.nil (T.region (T.p4 (pB b9 0) (.slice A14 e1.length c14) (.slice A2 p1.length c2) (.slice A3 p2.length c3) (fun _ => by kernel_rfl) ?_)))
    obtain ⟨r5, hb4, hY1⟩ := ob hY1
    refine T.step (W1.callI 36 [pB b9 0, .slice A14 e1.length c14, .slice A2 p1.length c2, .slice A3 p2.length c3] (fun v w' => ∃ (A15 : Option Addr) (c15 : Nat) (V10 : View), View.le V8 V10 ∧ SlOk V10 eElem A15 c15 r5.1 ∧ v = vi r5.2.2.2 ∧ Hp w V10 ((box b9 78 [.slice A15 r5.1.length c15, vi r5.2.1, vi r5.2.2.1]) :: t10_) w') (by kernel_rfl) (fun _ => by kernel_rfl) (fun w' hh => annalkeep_act_fr_l F x1 x2 x3 e1 p1 p2 r5 hb4 w hGl b9 A11 c11 A14 c14 A2 c2 A3 c3 V8 t10_ w' hs14 hs17 (SlOk.mono hs2 (vt (vt (vt (vt (vt (vt hV1 hV2) hV3) hV5) hV6) hV7) hV8)) (SlOk.mono hs3 (vt (vt (vt (vt (vt (vt hV1 hV2) hV3) hV5) hV6) hV7) hV8)) (hh.sub (kp2 (kp1 kp0)))) ?_)
    rintro v w' ⟨A15, c15, V10, hV10, hs18, rfl, hh⟩
    refine ⟨_, _, hh, ?_⟩
    clear hh
    refine T.nil (T.region (T.p2 (vi (IntKind.i64.wrap (x4 + 1))) (vi (IntKind.i64.wrap (x4 + 1))) (fun _ => by kernel_rfl) (T.nil ?_)))
    cases hY1
    exact fun a w' hf hh => ⟨(r5.1, r5.2.1, r5.2.2.1, IntKind.i64.wrap (x4 + 1)), rfl, r5.1, r5.2.1, r5.2.2.1, (IntKind.i64.wrap (x4 + 1)), rfl, A15, c15, A12, c12, V10, (vt hV8 hV10), hs18, (SlOk.mono hs15 hV10), (Fr.sel hf rfl), (hh.sub (kp2 (kp1 kp0)))⟩
   rw [hc2, cond_false] at hY1
   refine T.exit ?_
   cases hY1
   cases (hr1 _ rfl)
   exact fun a w' hf hh => ⟨x1, x2, x3, rfl, A11, c11, V8, hV8, hs14, (Fr.sel hf rfl), (hh.sub (kp2 (kp1 kp0)))⟩
  rintro a w' ⟨z4, z5, z6, rfl, A13, c13, V9, hV9, hs16, hf, hh⟩
  try dsimp only at hX1
  refine (?_ : T 26 w V9 ((box b9 78 [.slice A13 z4.length c13, vi z5, vi z6]) :: t10_) [(7, pB b9 0)] _) a w' hf hh
  clear hf hh
  refine T.seq (T.region (T.p2 (pB b9 0) (pB b9 0) (fun _ => by kernel_rfl) (T.nil ?_)))
  cases hX1
  refine T.ret rfl ?_
  exact T.ret1 rfl (ResIs.tmp rfl) fun w' hh => ⟨_, rfl, ⟨z4, z5, z6, rfl, b9, A13, c13, (some ⟨b5, 0, none⟩), ([(DElem.mk (DKey.mk 0 1 0) 1 0 (ByteArray.mk #[100]))].length), A1, c1, A1, c1, V9, (vt (vt (vt hV5 hV6) hV7) hV9), hs16, (SlOk.mono hs13 (made_mono hV9)), (SlOk.cut0 (SlOk.mono hs1 (vt (vt (vt (vt (vt (vt hV1 hV2) hV3) hV5) hV6) hV7) hV9)) hb2), (SlOk.cut0 (SlOk.mono hs1 (vt (vt (vt (vt (vt (vt hV1 hV2) hV3) hV5) hV6) hV7) hV9)) hb2), rfl, (hh.sub (kp2 (kp1 kp0)))⟩⟩
 rintro v w' ⟨z1, z2, z3, rfl, b9, A6, c6, A7, c7, A8, c8, A9, c9, V4, hV4, hs7, hs8, hs9, hs10, rfl, hh⟩
 try dsimp only at hF
 let i11_ : HObj := box b9 78 [.slice A6 z1.length c6, vi z2, vi z3]
 refine ⟨V4, (i11_ :: (box b6 78 [.slice A7 ([(DElem.mk (DKey.mk 0 1 0) 1 0 (ByteArray.mk #[100]))].length) c7, vi 1, vi 2]) :: i2_ :: []), hh, ?_⟩
 clear hh
 refine T.p2 (pB b6 0) (pB b9 0) (fun _ => by kernel_rfl) (T.nil (T.seq (T.seq (T.region (T.p3 (.slice A1 s1.length c1) (vi (s1.length : Int)) (vi 0) (fun _ => by kernel_rfl) (T.nil ?_))))))
 obtain ⟨q3, hz2, hF⟩ := ob hF
 refine T.mid (fun a w' => ∃ (z7 : List DElem) (z8 : Int) (z9 : Int), q3 = (z7, z8, z9) ∧ ∃ (A18 : Option Addr) (c18 : Nat) (V12 : View), View.le V4 V12 ∧ SlOk V12 eElem A18 c18 z7 ∧ Fr 81 [(7, pB b6 0), (8, pB b9 0)] a ∧ Hp w V12 (i11_ :: (box b6 78 [.slice A18 z7.length c18, vi z8, vi z9]) :: []) w') ?_ ?_
 ·
  refine T.block ?_
  refine T.iter (fun s3 a w' => ∃ (x5 : List DElem) (x6 : Int) (x7 : Int) (x8 : Int), s3 = (x5, x6, x7, x8) ∧ ∃ (A16 : Option Addr) (c16 : Nat) (A17 : Option Addr) (c17 : Nat) (V11 : View), View.le V4 V11 ∧ SlOk V11 eElem A16 c16 x5 ∧ SlOk V11 (eList eInt) A17 c17 s1 ∧ Fr 81 [(1, .slice A2 p1.length c2), (2, .slice A3 p2.length c3), (7, pB b6 0), (8, pB b9 0), (31, .slice A17 s1.length c17), (32, vi (s1.length : Int)), (33, vi x8)] a ∧ Hp w V11 (i11_ :: (box b6 78 [.slice A16 x5.length c16, vi x6, vi x7]) :: []) w') hz2 ?_ ?_
  ·
   exact fun a w' hf hh => ⟨[(DElem.mk (DKey.mk 0 1 0) 1 0 (ByteArray.mk #[100]))], 1, 2, 0, rfl, A7, c7, A1, c1, V4, vr, (SlOk.mono hs8 (vt (made_le _ _) vr)), (SlOk.cut0 (SlOk.mono hs1 (vt (vt (vt hV1 hV2) hV3) hV4)) hb2), (Fr.sel hf rfl), (hh.sub (kp2 (dr1 kp0)))⟩
  rintro s3 y2 hY2 hr3 a w' ⟨x5, x6, x7, x8, rfl, A16, c16, A17, c17, V11, hV11, hs19, hs20, hf, hh⟩
  refine (?_ : T 81 w V11 (i11_ :: (box b6 78 [.slice A16 x5.length c16, vi x6, vi x7]) :: []) [(1, .slice A2 p1.length c2), (2, .slice A3 p2.length c3), (7, pB b6 0), (8, pB b9 0), (31, .slice A17 s1.length c17), (32, vi (s1.length : Int)), (33, vi x8)] _) a w' hf hh
  clear hf hh
  try dsimp only at hY2
  refine T.seq (T.region (T.pk (.bool (decide (x8 < (s1.length : Int)))) (fun _ => by kernel_rfl) (T.nil (T.seq ?_))))
  refine T.cond (decide (x8 < (s1.length : Int))) (by kernel_rfl) (by kernel_rfl) (fun hc4 => ?_) (fun hc4 => ?_)
  ·
   rw [hc4, cond_true] at hY2
   refine T.skip_code ?_
   refine T.seq (T.block (T.seq (T.region ?_)))
   obtain ⟨e2, hb5, hY2⟩ := ob hY2
   obtain ⟨hi4, hi5, hi6⟩ := idx_some hb5
   obtain ⟨cs2, hr4, hc5⟩ := SlOk.elem hs20 hi6
   obtain ⟨A19, c19, rfl, hs22⟩ := hr4
   refine T.look (.pointer (some ((sadr A17).add (x8.toNat * 1)))) (by kernel_rfl) (fun w' hh => exec_indexAddr (e := 55) (s := 1) rfl rfl rfl (by kernel_rfl) (by kernel_rfl) hi4 hi5 (hs20.some_ hi6 (by decide))) ?_
   refine T.look (.slice A19 e2.length c19) (by kernel_rfl) (fun w' hh => exec_load1 rfl rfl (by kernel_rfl) (hh.cell_view (View.cell_mono vr (hc5 0 _ rfl).2))) ?_
   refine T.pk (.slice A19 e2.length c19) (fun _ => by kernel_rfl) (T.nil (T.seq (T.region (T.p4 (pB b6 0) (.slice A19 e2.length c19) (.slice A2 p1.length c2) (.slice A3 p2.length c3) (fun _ => by kernel_rfl) ?_))))
   obtain ⟨r6, hb6, hY2⟩ := ob hY2
   refine T.step (W1.callI 36 [pB b6 0, .slice A19 e2.length c19, .slice A2 p1.length c2, .slice A3 p2.length c3] (fun v w' => ∃ (A20 : Option Addr) (c20 : Nat) (V13 : View), View.le V11 V13 ∧ SlOk V13 eElem A20 c20 r6.1 ∧ v = vi r6.2.2.2 ∧ Hp w V13 ((box b6 78 [.slice A20 r6.1.length c20, vi r6.2.1, vi r6.2.2.1]) :: i11_ :: []) w') (by kernel_rfl) (fun _ => by kernel_rfl) (fun w' hh => annalkeep_act_fr_l F x5 x6 x7 e2 p1 p2 r6 hb6 w hGl b6 A16 c16 A19 c19 A2 c2 A3 c3 V11 (i11_ :: []) w' hs19 hs22 (SlOk.mono hs2 (vt (vt (vt (vt hV1 hV2) hV3) hV4) hV11)) (SlOk.mono hs3 (vt (vt (vt (vt hV1 hV2) hV3) hV4) hV11)) (hh.ix 2 [1, 0])) ?_)
   rintro v w' ⟨A20, c20, V13, hV13, hs23, rfl, hh⟩
   let i12_ : HObj := box b6 78 [.slice A20 r6.1.length c20, vi r6.2.1, vi r6.2.2.1]
   let t13_ : List HObj := i11_ :: i12_ :: []
   refine ⟨V13, t13_, hh.ix 2 [1, 0], ?_⟩
   clear hh
   refine T.nil (T.seq (T.region (T.pk (pB b6 0) (fun _ => by kernel_rfl) ?_)))
   obtain ⟨q4, hX2, hY2⟩ := ob hY2
   refine T.step (W1.within 26 [pB b6 0] (fun v w' => q4 = () ∧ ∃ (A21 : Option Addr) (c21 : Nat), v = .slice A21 ((([] : List DElem) ++ r6.1).length) c21 ∧ Hp w V13 ((row 44 eElem A21 c21 (([] : List DElem) ++ r6.1)) :: t13_) w') Tryz.func26 rfl rfl (by kernel_rfl) (fun _ => by kernel_rfl) rfl ?_ ?_)
   ·
    refine T.seq (T.region (T.pk sN (fun _ => by kernel_rfl) (T.nil (T.seq (T.region (T.p3 (pB b6 0) (pB b6 0) (pB b6 0) (fun _ => by kernel_rfl) (T.look (.slice A20 r6.1.length c20) (by kernel_rfl) (ld1 1 rfl rfl (fun _ => by kernel_rfl) (by rfl) rfl) ?_)))))))
    refine T.rownil 44 eElem ?_
    obtain ⟨y3, hb7, hX2⟩ := ob hX2
    obtain ⟨hb7_r, hb7_m, rfl⟩ := grow_some hb7
    obtain ⟨ti, hti, hz1, hz2, hz3⟩ := info_parts (P := Tryz.prog) (e := 44) (z := .agg #[vi 0, vi 0, vi 0, vi 0, vi 0, .string (ByteArray.mk #[])]) (size := 6) (bytes := 56) (by kernel_rfl)
    refine T.step (W1.append (E := eElem) (l := ([] : List DElem)) (m := r6.1) 0 _ _ 56 ti _ (by rfl) (by kernel_rfl) rfl (by kernel_rfl) hti hz1 hz2 hz3 rfl (by decide) rfl rfl (fun w' hh => (SlOk.srcF (SlOk.mono hs23 hh.view) (fun _ _ _ _ h => h))) hb7_r hb7_m (fun A22 c22 => ?_))
    refine T.pk (.slice A22 ((([] : List DElem) ++ r6.1).length) c22) (fun _ => by kernel_rfl) (T.nil ?_)
    cases hX2
    refine T.ret rfl ?_
    exact T.ret1 rfl (ResIs.tmp rfl) fun w' hh => ⟨_, rfl, ⟨rfl, A22, c22, rfl, (hh.sub (kp2 (kp1 kp0)))⟩⟩
   rintro v w' ⟨rfl, A21, c21, rfl, hh⟩
   try dsimp only at hY2
   refine ⟨V13, ((row 44 eElem A21 c21 (([] : List DElem) ++ r6.1)) :: t13_), hh, ?_⟩
   clear hh
   let a46_ : Value := .agg #[vi 0, vi 0, vi 0, vi 5, vi 0, .string (ByteArray.mk #[])]
   refine T.pk a46_ (fun _ => by kernel_rfl) ?_
   let i14_ : HObj := row 44 eElem A21 c21 (List.replicate c21 (DElem.mk (DKey.mk 0 0 0) 5 0 (ByteArray.mk #[])))
   refine T.step (W1.callI 38 [.slice A21 ((([] : List DElem) ++ r6.1).length) c21, a46_] (fun v w' => v = .tuple #[] ∧ Hp w V13 (i14_ :: t13_) w') (by kernel_rfl) (fun _ => by kernel_rfl) (fun w' hh => (own_spoil_Elem (n := ((([] : List DElem) ++ r6.1).length)) (DElem.mk (DKey.mk 0 0 0) 5 0 (ByteArray.mk #[])) (hh.objs_at (i := 0) (by rfl)) hh).mono (by rintro e_ w_ ⟨rfl, h_⟩; exact ⟨_, rfl, rfl, h_⟩)) ?_)
   rintro v w' ⟨rfl, hh⟩
   refine ⟨V13, (i14_ :: t13_), hh, ?_⟩
   clear hh
   obtain ⟨V14, eV14⟩ : ∃ V, V = V13 := ⟨_, rfl⟩
   have hV14 : View.le V13 V14 := by rw [eV14]; exact View.le_refl _
   rw [← eV14]
   refine T.nil (T.seq (T.region (T.p2 (pB b6 0) (pB b6 0) (fun _ => by kernel_rfl) (T.step (W1.within 21 [pB b6 0] (fun v w' => v = vi r6.2.1 ∧ Hp w V14 t13_ w') Tryz.func21 rfl rfl (by kernel_rfl) (fun _ => by kernel_rfl) rfl ?_ ?_)))))
   ·
    refine T.seq (T.region (T.pk (vi 0) (fun _ => by kernel_rfl) (T.nil (T.seq (T.region (T.p3 (pB b6 0) (pB b6 0) (pB b6 1) (fun _ => by kernel_rfl) (T.look (vi r6.2.1) (by kernel_rfl) (ld1 2 rfl rfl (fun _ => by kernel_rfl) (by rfl) rfl) ?_)))))))
    refine T.pk (vi r6.2.1) (fun _ => by kernel_rfl) (T.nil ?_)
    refine T.ret rfl ?_
    exact T.ret1 rfl (ResIs.tmp rfl) fun w' hh => ⟨_, rfl, ⟨rfl, (hh.sub (dr1 (kp1 (kp1 kp0))))⟩⟩
   rintro v w' ⟨rfl, hh⟩
   refine ⟨V14, t13_, hh, ?_⟩
   clear hh
   obtain ⟨r9, hb9, hY2⟩ := ob hY2
   refine T.step (W1.callI 34 [pB b6 0, .string (ByteArray.mk #[47]), vi r6.2.1] (fun v w' => ∃ (A23 : Option Addr) (c23 : Nat) (V15 : View), View.le V14 V15 ∧ v = .tuple #[.slice A23 r9.1.length c23, vi r9.2] ∧ Hp w V15 ((row 9 eStr A23 c23 r9.1) :: i12_ :: i11_ :: []) w') (by kernel_rfl) (fun _ => by kernel_rfl) (fun w' hh => fs_FS_List_fo_l F r6.1 r6.2.1 r6.2.2.1 (ByteArray.mk #[47]) r6.2.1 r9 hb9 w hGl b6 A20 c20 V14 (i11_ :: []) w' (SlOk.mono hs23 hV14) (hh.ix 2 [1, 0])) ?_)
   rintro v w' ⟨A23, c23, V15, hV15, rfl, hh⟩
   refine ⟨V15, ((row 9 eStr A23 c23 r9.1) :: t13_), hh.ix 3 [0, 2, 1], ?_⟩
   clear hh
   refine T.p5 (.tuple #[.slice A23 r9.1.length c23, vi r9.2]) (.slice A23 r9.1.length c23) (vi r9.2) (.slice A23 r9.1.length c23) (vi r9.2) (fun _ => by kernel_rfl) (T.nil (T.region (T.pk (.slice A23 r9.1.length c23) (fun _ => by kernel_rfl) ?_)))
   let i15_ : HObj := row 9 eStr A23 c23 (List.replicate c23 (ByteArray.mk #[115, 112, 111, 105, 108, 116]))
   refine T.step (W1.callI 39 [.slice A23 r9.1.length c23, .string (ByteArray.mk #[115, 112, 111, 105, 108, 116])] (fun v w' => v = .tuple #[] ∧ Hp w V15 (i15_ :: t13_) w') (by kernel_rfl) (fun _ => by kernel_rfl) (fun w' hh => (own_spoil_str (n := r9.1.length) (ByteArray.mk #[115, 112, 111, 105, 108, 116]) (hh.objs_at (i := 0) (by rfl)) hh).mono (by rintro e_ w_ ⟨rfl, h_⟩; exact ⟨_, rfl, rfl, h_⟩)) ?_)
   rintro v w' ⟨rfl, hh⟩
   refine ⟨V15, (i15_ :: t13_), hh, ?_⟩
   clear hh
   obtain ⟨V16, eV16⟩ : ∃ V, V = V15 := ⟨_, rfl⟩
   have hV16 : View.le V15 V16 := by rw [eV16]; exact View.le_refl _
   rw [← eV16]
   refine T.nil (T.region (T.p2 (vi (IntKind.i64.wrap (x8 + 1))) (vi (IntKind.i64.wrap (x8 + 1))) (fun _ => by kernel_rfl) (T.nil ?_)))
   cases hY2
   exact fun a w' hf hh => ⟨(r6.1, r6.2.1, r6.2.2.1, IntKind.i64.wrap (x8 + 1)), rfl, r6.1, r6.2.1, r6.2.2.1, (IntKind.i64.wrap (x8 + 1)), rfl, A20, c20, A17, c17, V16, (vt (vt (vt (vt hV11 hV13) hV14) hV15) hV16), (SlOk.mono hs23 (vt (vt hV14 hV15) hV16)), (SlOk.mono hs20 (vt (vt (vt hV13 hV14) hV15) hV16)), (Fr.sel hf rfl), (hh.sub (dr1 (kp1 (kp1 kp0))))⟩
  rw [hc4, cond_false] at hY2
  refine T.exit ?_
  cases hY2
  cases (hr3 _ rfl)
  exact fun a w' hf hh => ⟨x5, x6, x7, rfl, A16, c16, V11, hV11, hs19, (Fr.sel hf rfl), (hh.sub (kp1 (kp1 kp0)))⟩
 rintro a w' ⟨z7, z8, z9, rfl, A18, c18, V12, hV12, hs21, hf, hh⟩
 try dsimp only at hF
 let i16_ : HObj := box b6 78 [.slice A18 z7.length c18, vi z8, vi z9]
 let t17_ : List HObj := i11_ :: i16_ :: []
 refine (?_ : T 81 w V12 t17_ [(7, pB b6 0), (8, pB b9 0)] _) a w' hf hh
 clear hf hh
 obtain ⟨z10, hX3, hF⟩ := ob hF
 refine T.cut (fun a w' => ∃ (V17 : View), View.le V12 V17 ∧ Fr 81 [(6, .bool z10)] a ∧ Hp w V17 [] w') ?_ ?_
 ·
  refine T.region (T.pk (pB b6 0) (fun _ => by kernel_rfl) ?_)
  let v41_ : List Value := [pB b6 0]
  refine T.step (W1.within 21 v41_ (fun v w' => v = vi z8 ∧ Hp w V12 t17_ w') Tryz.func21 rfl rfl (by kernel_rfl) (fun _ => by kernel_rfl) rfl ?_ ?_)
  ·
   refine T.seq (T.region (T.pk (vi 0) (fun _ => by kernel_rfl) (T.nil (T.seq (T.region (T.p3 (pB b6 0) (pB b6 0) (pB b6 1) (fun _ => by kernel_rfl) (T.look (vi z8) (by kernel_rfl) (ld1 1 rfl rfl (fun _ => by kernel_rfl) (by rfl) rfl) ?_)))))))
   refine T.pk (vi z8) (fun _ => by kernel_rfl) (T.nil ?_)
   refine T.ret rfl ?_
   exact T.ret1 rfl (ResIs.tmp rfl) fun w' hh => ⟨_, rfl, ⟨rfl, (hh.sub (kp1 (kp1 kp0)))⟩⟩
  rintro v w' ⟨rfl, hh⟩
  refine ⟨V12, t17_, hh, ?_⟩
  clear hh
  refine T.pk (pB b9 0) (fun _ => by kernel_rfl) ?_
  let v42_ : List Value := [pB b9 0]
  refine T.step (W1.within 21 v42_ (fun v w' => v = vi z2 ∧ Hp w V12 t17_ w') Tryz.func21 rfl rfl (by kernel_rfl) (fun _ => by kernel_rfl) rfl ?_ ?_)
  ·
   refine T.seq (T.region (T.pk (vi 0) (fun _ => by kernel_rfl) (T.nil (T.seq (T.region (T.p3 (pB b9 0) (pB b9 0) (pB b9 1) (fun _ => by kernel_rfl) (T.look (vi z2) (by kernel_rfl) (ld1 0 rfl rfl (fun _ => by kernel_rfl) (by rfl) rfl) ?_)))))))
   refine T.pk (vi z2) (fun _ => by kernel_rfl) (T.nil ?_)
   refine T.ret rfl ?_
   exact T.ret1 rfl (ResIs.tmp rfl) fun w' hh => ⟨_, rfl, ⟨rfl, (hh.sub (kp1 (kp1 kp0)))⟩⟩
  rintro v w' ⟨rfl, hh⟩
  refine ⟨V12, t17_, hh, ?_⟩
  clear hh
  refine T.p2 (.bool (z8 == z2)) (.bool (z8 == z2)) (fun _ => by kernel_rfl) ?_
  cases hg1 : (z8 == z2)
  ·
   skip
   rw [hg1, cond_false] at hX3
   refine T.pass (by kernel_rfl) (by kernel_rfl) (T.pass (by kernel_rfl) (by kernel_rfl) (T.pass (by kernel_rfl) (by kernel_rfl) (T.pass (by kernel_rfl) (by kernel_rfl) (T.pass (by kernel_rfl) (by kernel_rfl) (T.p2 (.bool false) (.bool false) (fun _ => by kernel_rfl) (T.pass (by kernel_rfl) (by kernel_rfl) (T.pass (by kernel_rfl) (by kernel_rfl) (T.pass (by kernel_rfl) (by kernel_rfl) (T.pass (by kernel_rfl) (by kernel_rfl) (T.pass (by kernel_rfl) (by kernel_rfl) (T.pass (by kernel_rfl) (by kernel_rfl) (T.pass (by kernel_rfl) (by kernel_rfl) (T.pass (by kernel_rfl) (by kernel_rfl) (T.pass (by kernel_rfl) (by kernel_rfl) (T.pass (by kernel_rfl) (by kernel_rfl) (T.pass (by kernel_rfl) (by kernel_rfl) (T.p2 (.bool false) (.bool false) (fun _ => by kernel_rfl) (T.nil ?_))))))))))))))))))
   cases hX3
   exact fun a w' hf hh => ⟨V12, vr, (Fr.sel hf rfl), (hh.sub (dr1 (dr1 kp0)))⟩
  skip
  rw [hg1, cond_true] at hX3
  refine T.pk (pB b6 0) (fun _ => by kernel_rfl) ?_
  obtain ⟨q5, hX4, hX3⟩ := ob hX3
  refine T.step (W1.within 26 v41_ (fun v w' => q5 = () ∧ ∃ (A24 : Option Addr) (c24 : Nat), v = .slice A24 ((([] : List DElem) ++ z7).length) c24 ∧ Hp w V12 ((row 44 eElem A24 c24 (([] : List DElem) ++ z7)) :: t17_) w') Tryz.func26 rfl rfl (by kernel_rfl) (fun _ => by kernel_rfl) rfl ?_ ?_)
  ·
   refine T.seq (T.region (T.pk sN (fun _ => by kernel_rfl) (T.nil (T.seq (T.region (T.p3 (pB b6 0) (pB b6 0) (pB b6 0) (fun _ => by kernel_rfl) (T.look (.slice A18 z7.length c18) (by kernel_rfl) (ld1 1 rfl rfl (fun _ => by kernel_rfl) (by rfl) rfl) ?_)))))))
   refine T.rownil 44 eElem ?_
   obtain ⟨y4, hb11, hX4⟩ := ob hX4
   obtain ⟨hb11_r, hb11_m, rfl⟩ := grow_some hb11
   obtain ⟨ti, hti, hz1, hz2, hz3⟩ := info_parts (P := Tryz.prog) (e := 44) (z := .agg #[vi 0, vi 0, vi 0, vi 0, vi 0, .string (ByteArray.mk #[])]) (size := 6) (bytes := 56) (by kernel_rfl)
   refine T.step (W1.append (E := eElem) (l := ([] : List DElem)) (m := z7) 0 _ _ 56 ti _ (by rfl) (by kernel_rfl) rfl (by kernel_rfl) hti hz1 hz2 hz3 rfl (by decide) rfl rfl (fun w' hh => (SlOk.srcF (SlOk.mono hs21 hh.view) (fun _ _ _ _ h => h))) hb11_r hb11_m (fun A25 c25 => ?_))
   refine T.pk (.slice A25 ((([] : List DElem) ++ z7).length) c25) (fun _ => by kernel_rfl) (T.nil ?_)
   cases hX4
   refine T.ret rfl ?_
   exact T.ret1 rfl (ResIs.tmp rfl) fun w' hh => ⟨_, rfl, ⟨rfl, A25, c25, rfl, (hh.sub (kp2 (kp1 kp0)))⟩⟩
  rintro v w' ⟨rfl, A24, c24, rfl, hh⟩
  try dsimp only at hX3
  let i18_ : HObj := row 44 eElem A24 c24 (([] : List DElem) ++ z7)
  let t19_ : List HObj := i18_ :: t17_
  refine ⟨V12, t19_, hh, ?_⟩
  clear hh
  refine T.pk (pB b9 0) (fun _ => by kernel_rfl) ?_
  obtain ⟨q6, hX5, hX3⟩ := ob hX3
  refine T.step (W1.within 26 v42_ (fun v w' => q6 = () ∧ ∃ (A26 : Option Addr) (c26 : Nat), v = .slice A26 ((([] : List DElem) ++ z1).length) c26 ∧ Hp w V12 ((row 44 eElem A26 c26 (([] : List DElem) ++ z1)) :: t19_) w') Tryz.func26 rfl rfl (by kernel_rfl) (fun _ => by kernel_rfl) rfl ?_ ?_)
  ·
   refine T.seq (T.region (T.pk sN (fun _ => by kernel_rfl) (T.nil (T.seq (T.region (T.p3 (pB b9 0) (pB b9 0) (pB b9 0) (fun _ => by kernel_rfl) (T.look (.slice A6 z1.length c6) (by kernel_rfl) (ld1 1 rfl rfl (fun _ => by kernel_rfl) (by rfl) rfl) ?_)))))))
   refine T.rownil 44 eElem ?_
   obtain ⟨y5, hb12, hX5⟩ := ob hX5
   obtain ⟨hb12_r, hb12_m, rfl⟩ := grow_some hb12
   obtain ⟨ti, hti, hz1, hz2, hz3⟩ := info_parts (P := Tryz.prog) (e := 44) (z := .agg #[vi 0, vi 0, vi 0, vi 0, vi 0, .string (ByteArray.mk #[])]) (size := 6) (bytes := 56) (by kernel_rfl)
   refine T.step (W1.append (E := eElem) (l := ([] : List DElem)) (m := z1) 0 _ _ 56 ti _ (by rfl) (by kernel_rfl) rfl (by kernel_rfl) hti hz1 hz2 hz3 rfl (by decide) rfl rfl (fun w' hh => (SlOk.srcF (SlOk.mono (SlOk.mono hs7 hV12) hh.view) (fun _ _ _ _ h => h))) hb12_r hb12_m (fun A27 c27 => ?_))
   refine T.pk (.slice A27 ((([] : List DElem) ++ z1).length) c27) (fun _ => by kernel_rfl) (T.nil ?_)
   cases hX5
   refine T.ret rfl ?_
   exact T.ret1 rfl (ResIs.tmp rfl) fun w' hh => ⟨_, rfl, ⟨rfl, A27, c27, rfl, (hh.sub (kp3 (kp1 kp0)))⟩⟩
  rintro v w' ⟨rfl, A26, c26, rfl, hh⟩
  try dsimp only at hX3
  let i20_ : HObj := row 44 eElem A26 c26 (([] : List DElem) ++ z1)
  let t21_ : List HObj := i20_ :: t19_
  refine ⟨V12, t21_, hh, ?_⟩
  clear hh
  obtain ⟨r13, hb13, hX3⟩ := ob hX3
  refine T.step (W1.call (vSc eBool) r13 27 #[.slice A24 ((([] : List DElem) ++ z7).length) c24, .slice A26 ((([] : List DElem) ++ z1).length) c26] (by kernel_rfl) (fun _ => by kernel_rfl) (fun w' hh => slices_Equal_Elem_l F (([] : List DElem) ++ z7) (([] : List DElem) ++ z1) r13 hb13 w' A24 c24 (hh.row_slOk (i := 1) (by rfl)) A26 c26 (hh.row_slOk (i := 0) (by rfl))) ?_)
  intro u V18 hV18 hu
  obtain rfl := sureBool _ _ _ hu
  refine T.p2 (.bool r13) (.bool r13) (fun _ => by kernel_rfl) ?_
  cases hg2 : r13
  ·
   skip
   rw [hg2, cond_false] at hX3
   refine T.pass (by kernel_rfl) (by kernel_rfl) (T.pass (by kernel_rfl) (by kernel_rfl) (T.pass (by kernel_rfl) (by kernel_rfl) (T.pass (by kernel_rfl) (by kernel_rfl) (T.pass (by kernel_rfl) (by kernel_rfl) (T.pass (by kernel_rfl) (by kernel_rfl) (T.pass (by kernel_rfl) (by kernel_rfl) (T.pass (by kernel_rfl) (by kernel_rfl) (T.pass (by kernel_rfl) (by kernel_rfl) (T.pass (by kernel_rfl) (by kernel_rfl) (T.pass (by kernel_rfl) (by kernel_rfl) (T.p2 (.bool false) (.bool false) (fun _ => by kernel_rfl) (T.nil ?_))))))))))))
   cases hX3
   exact fun a w' hf hh => ⟨V18, hV18, (Fr.sel hf rfl), (hh.sub (dr3 (dr1 kp0)))⟩
  skip
  rw [hg2, cond_true] at hX3
  refine T.pk (pB b6 0) (fun _ => by kernel_rfl) ?_
  let v43_ : List Value := [.string (ByteArray.mk #[47])]
  refine T.step (W1.ns 9 v43_ (fun _ => by kernel_rfl) (fun b10 => ?_))
  refine T.pk (pB b6 0) (fun _ => by kernel_rfl) ?_
  let i22_ : HObj := box b10 9 v43_
  let t23_ : List HObj := i22_ :: t21_
  refine T.step (W1.within 21 v41_ (fun v w' => v = vi z8 ∧ Hp w V18 t23_ w') Tryz.func21 rfl rfl (by kernel_rfl) (fun _ => by kernel_rfl) rfl ?_ ?_)
  ·
   refine T.seq (T.region (T.pk (vi 0) (fun _ => by kernel_rfl) (T.nil (T.seq (T.region (T.p3 (pB b6 0) (pB b6 0) (pB b6 1) (fun _ => by kernel_rfl) (T.look (vi z8) (by kernel_rfl) (ld1 4 rfl rfl (fun _ => by kernel_rfl) (by rfl) rfl) ?_)))))))
   refine T.pk (vi z8) (fun _ => by kernel_rfl) (T.nil ?_)
   refine T.ret rfl ?_
   exact T.ret1 rfl (ResIs.tmp rfl) fun w' hh => ⟨_, rfl, ⟨rfl, (hh.sub (kp4 (kp1 kp0)))⟩⟩
  rintro v w' ⟨rfl, hh⟩
  refine ⟨V18, t23_, hh, ?_⟩
  clear hh
  obtain ⟨z11, hX6, hX3⟩ := ob hX3
  refine T.step (W1.within 35 [pB b6 0, .slice (some ⟨b10, 0, none⟩) 1 1, vi z8] (fun v w' => ∃ (A28 : Option Addr) (c28 : Nat) (V19 : View), View.le V18 V19 ∧ v = .slice A28 z11.length c28 ∧ Hp w V19 ((row 9 eStr A28 c28 z11) :: t23_) w') Tryz.func35 rfl rfl (by kernel_rfl) (fun _ => by kernel_rfl) rfl ?_ ?_)
  ·
   refine T.seq (T.region (T.pk sN (fun _ => by kernel_rfl) (T.nil (T.seq (T.region (T.pk sN (fun _ => by kernel_rfl) (T.nil (T.seq (T.seq (T.region (T.p3 (.slice (some ⟨b10, 0, none⟩) 1 1) (vi 1) (vi 0) (fun _ => by kernel_rfl) (T.nil (T.block ?_)))))))))))))
   refine T.rounds 2 ?_
   refine T.round ?_
   refine T.seq (T.region (T.pk (.bool true) (fun _ => by kernel_rfl) (T.nil (T.seq ?_))))
   refine T.cond true (by kernel_rfl) (by kernel_rfl) (fun _ => ?_) (fun h => Bool.noConfusion h)
   refine T.skip_code ?_
   refine T.seq (T.block (T.seq (T.region (T.pk (pB b10 0) (fun _ => by kernel_rfl) (T.look (.string (ByteArray.mk #[47])) (by kernel_rfl) (ld1 0 rfl rfl (fun _ => by kernel_rfl) (by rfl) rfl) ?_)))))
   refine T.pk (.string (ByteArray.mk #[47])) (fun _ => by kernel_rfl) (T.nil (T.seq (T.region (T.p3 (pB b6 0) (.string (ByteArray.mk #[47])) (vi z8) (fun _ => by kernel_rfl) ?_))))
   obtain ⟨r14, hb14, hX6⟩ := ob hX6
   let t24_ : List HObj := i18_ :: i11_ :: []
   let t25_ : List HObj := i20_ :: t24_
   let t26_ : List HObj := i22_ :: t25_
   let t27_ : List HObj := i16_ :: t26_
   let v44_ : List Value := [pB b6 0, .string (ByteArray.mk #[47]), vi z8]
   refine T.step (W1.callI 20 v44_ (fun v w' => ∃ (V20 : View), View.le V18 V20 ∧ v = .tuple #[.string r14.1, vi r14.2] ∧ Hp w V20 t27_ w') (by kernel_rfl) (fun _ => by kernel_rfl) (fun w' hh => fs_FS_Kind_fr_l F z7 z8 z9 (ByteArray.mk #[47]) z8 r14 hb14 w hGl b6 A18 c18 V18 t26_ w' (SlOk.mono hs21 hV18) (hh.ix 5 [4, 0, 1, 2, 3])) ?_)
   rintro v w' ⟨V20, hV20, rfl, hh⟩
   refine ⟨V20, t23_, hh.ix 5 [1, 2, 3, 4, 0], ?_⟩
   clear hh
   refine T.p5 (.tuple #[.string r14.1, vi r14.2]) (.string r14.1) (vi r14.2) (.string r14.1) (vi r14.2) (fun _ => by kernel_rfl) (T.nil (T.seq (T.region (T.p3 (pB b6 0) (.string (ByteArray.mk #[47])) (vi z8) (fun _ => by kernel_rfl) ?_))))
   obtain ⟨r15, hb15, hX6⟩ := ob hX6
   refine T.step (W1.callI 25 v44_ (fun v w' => ∃ (V21 : View), View.le V20 V21 ∧ v = .tuple #[.string r15.1, vi r15.2] ∧ Hp w V21 t27_ w') (by kernel_rfl) (fun _ => by kernel_rfl) (fun w' hh => fs_FS_Read_fr_l F z7 z8 z9 (ByteArray.mk #[47]) z8 r15 hb15 w hGl b6 A18 c18 V20 t26_ w' (SlOk.mono hs21 (vt hV18 hV20)) (hh.ix 5 [4, 0, 1, 2, 3])) ?_)
   rintro v w' ⟨V21, hV21, rfl, hh⟩
   refine ⟨V21, t23_, hh.ix 5 [1, 2, 3, 4, 0], ?_⟩
   clear hh
   refine T.p5 (.tuple #[.string r15.1, vi r15.2]) (.string r15.1) (vi r15.2) (.string r15.1) (vi r15.2) (fun _ => by kernel_rfl) (T.nil (T.seq (T.region (T.p3 (pB b6 0) (.string (ByteArray.mk #[47])) (vi z8) (fun _ => by kernel_rfl) ?_))))
   obtain ⟨r16, hb16, hX6⟩ := ob hX6
   refine T.step (W1.callI 34 v44_ (fun v w' => ∃ (A29 : Option Addr) (c29 : Nat) (V22 : View), View.le V21 V22 ∧ SlOk (made w V22) eStr A29 c29 r16.1 ∧ v = .tuple #[.slice A29 r16.1.length c29, vi r16.2] ∧ Hp w V22 t27_ w') (by kernel_rfl) (fun _ => by kernel_rfl) (fun w' hh => fs_FS_List_fr_l F z7 z8 z9 (ByteArray.mk #[47]) z8 r16 hb16 w hGl b6 A18 c18 V21 t26_ w' (SlOk.mono hs21 (vt (vt hV18 hV20) hV21)) (hh.ix 5 [4, 0, 1, 2, 3])) ?_)
   rintro v w' ⟨A29, c29, V22, hV22, hs25, rfl, hh⟩
   refine ⟨V22, t23_, hh.ix 5 [1, 2, 3, 4, 0], ?_⟩
   clear hh
   refine T.p5 (.tuple #[.slice A29 r16.1.length c29, vi r16.2]) (.slice A29 r16.1.length c29) (vi r16.2) (.slice A29 r16.1.length c29) (vi r16.2) (fun _ => by kernel_rfl) (T.nil (T.seq (T.region (T.p4 sN (.string r14.1) (.string r15.1) (vi r14.2) (fun _ => by kernel_rfl) ?_))))
   obtain ⟨r17, hb17, hX6⟩ := ob hX6
   refine T.step (W1.call (vSc eStr) r17 71 #[vi r14.2] (by kernel_rfl) (fun _ => by kernel_rfl) (fun w' hh => annalref_Dec_l r14.2 r17 hb17 w' ) ?_)
   intro u V23 hV23 hu
   obtain rfl := sureStr _ _ _ hu
   refine T.pk (vi r15.2) (fun _ => by kernel_rfl) ?_
   obtain ⟨r18, hb18, hX6⟩ := ob hX6
   refine T.step (W1.call (vSc eStr) r18 71 #[vi r15.2] (by kernel_rfl) (fun _ => by kernel_rfl) (fun w' hh => annalref_Dec_l r15.2 r18 hb18 w' ) ?_)
   intro u V24 hV24 hu
   obtain rfl := sureStr _ _ _ hu
   refine T.pk (vi r16.2) (fun _ => by kernel_rfl) ?_
   obtain ⟨r19, hb19, hX6⟩ := ob hX6
   refine T.step (W1.call (vSc eStr) r19 71 #[vi r16.2] (by kernel_rfl) (fun _ => by kernel_rfl) (fun w' hh => annalref_Dec_l r16.2 r19 hb19 w' ) ?_)
   intro u V25 hV25 hu
   obtain rfl := sureStr _ _ _ hu
   refine T.step (W1.new 9 [.string r14.1, .string r15.1, .string r17, .string r18, .string r19] (fun b => .slice (some ⟨b, 0, none⟩) 5 5) (by kernel_rfl) (fun _ => by kernel_rfl) (fun b11 => ?_))
   refine T.rownil 9 eStr ?_
   obtain ⟨y6, hb20, hX6⟩ := ob hX6
   obtain ⟨hb20_r, hb20_m, rfl⟩ := grow_some hb20
   obtain ⟨ti, hti, hz1, hz2, hz3⟩ := info_parts (P := Tryz.prog) (e := 9) (z := .string (ByteArray.mk #[])) (size := 1) (bytes := 16) (by kernel_rfl)
   refine T.step (W1.append (E := eStr) (l := ([] : List ByteArray)) (m := [r14.1, r15.1, r17, r18, r19]) 0 _ _ 16 ti _ (by rfl) (by kernel_rfl) rfl (by kernel_rfl) hti hz1 hz2 hz3 rfl (by decide) rfl rfl (fun w' hh => (SlOk.srcF (slok_lit (E := eStr) (f := (fun x => [.string x])) [r14.1, r15.1, r17, r18, r19] (fun _ _ => rfl) (Nat.le_of_ble_eq_true (by rfl)) (fun j => hh.cellBox (i := 1) (by rfl) j)) (fun _ _ _ _ h => h))) hb20_r hb20_m (fun A30 c30 => ?_))
   refine T.pk (.slice A30 ((([] : List ByteArray) ++ [r14.1, r15.1, r17, r18, r19]).length) c30) (fun _ => by kernel_rfl) (T.nil (T.region (T.p2 (.slice A30 ((([] : List ByteArray) ++ [r14.1, r15.1, r17, r18, r19]).length) c30) (.slice A29 r16.1.length c29) (fun _ => by kernel_rfl) ?_)))
   obtain ⟨y7, hb21, hX6⟩ := ob hX6
   obtain ⟨hb21_r, hb21_m, rfl⟩ := grow_some hb21
   obtain ⟨ti, hti, hz1, hz2, hz3⟩ := info_parts (P := Tryz.prog) (e := 9) (z := .string (ByteArray.mk #[])) (size := 1) (bytes := 16) (by kernel_rfl)
   refine T.step (W1.append (E := eStr) (l := (([] : List ByteArray) ++ [r14.1, r15.1, r17, r18, r19])) (m := r16.1) 0 _ _ 16 ti _ (by rfl) (by kernel_rfl) rfl (by kernel_rfl) hti hz1 hz2 hz3 rfl (by decide) rfl rfl (fun w' hh => (SlOk.srcF (SlOk.mono (SlOk.mono hs25 (vt (made_le _ _) (vt (vt hV23 hV24) hV25))) hh.view) (fun _ _ _ _ h => h))) hb21_r hb21_m (fun A31 c31 => ?_))
   refine T.pk (.slice A31 (((([] : List ByteArray) ++ [r14.1, r15.1, r17, r18, r19]) ++ r16.1).length) c31) (fun _ => by kernel_rfl) (T.nil (T.region (T.p2 (vi 1) (vi 1) (fun _ => by kernel_rfl) (T.nil ?_))))
   refine T.round ?_
   refine T.seq (T.region (T.pk (.bool false) (fun _ => by kernel_rfl) (T.nil (T.seq ?_))))
   refine T.cond false (by kernel_rfl) (by kernel_rfl) (fun h => Bool.noConfusion h) (fun _ => ?_)
   refine T.exit ?_
   refine T.seq (T.region (T.p2 (.slice A31 (((([] : List ByteArray) ++ [r14.1, r15.1, r17, r18, r19]) ++ r16.1).length) c31) (.slice A31 (((([] : List ByteArray) ++ [r14.1, r15.1, r17, r18, r19]) ++ r16.1).length) c31) (fun _ => by kernel_rfl) (T.nil ?_)))
   cases hX6
   refine T.ret rfl ?_
   exact T.ret1 rfl (ResIs.tmp rfl) fun w' hh => ⟨_, rfl, ⟨A31, c31, V25, (vt (vt (vt (vt (vt hV20 hV21) hV22) hV23) hV24) hV25), rfl, (hh.sub (kp1 (dr1 (kp4 (kp1 kp0)))))⟩⟩
  rintro v w' ⟨A28, c28, V19, hV19, rfl, hh⟩
  let t28_ : List HObj := (row 9 eStr A28 c28 z11) :: t23_
  refine ⟨V19, t28_, hh, ?_⟩
  clear hh
  refine T.pk (pB b9 0) (fun _ => by kernel_rfl) (T.step (W1.ns 9 v43_ (fun _ => by kernel_rfl) (fun b12 => ?_)))
  refine T.pk (pB b9 0) (fun _ => by kernel_rfl) ?_
  let i29_ : HObj := box b12 9 v43_
  let t30_ : List HObj := i29_ :: t28_
  refine T.step (W1.within 21 v42_ (fun v w' => v = vi z2 ∧ Hp w V19 t30_ w') Tryz.func21 rfl rfl (by kernel_rfl) (fun _ => by kernel_rfl) rfl ?_ ?_)
  ·
   refine T.seq (T.region (T.pk (vi 0) (fun _ => by kernel_rfl) (T.nil (T.seq (T.region (T.p3 (pB b9 0) (pB b9 0) (pB b9 1) (fun _ => by kernel_rfl) (T.look (vi z2) (by kernel_rfl) (ld1 5 rfl rfl (fun _ => by kernel_rfl) (by rfl) rfl) ?_)))))))
   refine T.pk (vi z2) (fun _ => by kernel_rfl) (T.nil ?_)
   refine T.ret rfl ?_
   exact T.ret1 rfl (ResIs.tmp rfl) fun w' hh => ⟨_, rfl, ⟨rfl, (hh.sub (kp6 (kp1 kp0)))⟩⟩
  rintro v w' ⟨rfl, hh⟩
  refine ⟨V19, t30_, hh, ?_⟩
  clear hh
  obtain ⟨z12, hX7, hX3⟩ := ob hX3
  refine T.step (W1.within 35 [pB b9 0, .slice (some ⟨b12, 0, none⟩) 1 1, vi z2] (fun v w' => ∃ (A32 : Option Addr) (c32 : Nat) (V26 : View), View.le V19 V26 ∧ v = .slice A32 z12.length c32 ∧ Hp w V26 ((row 9 eStr A32 c32 z12) :: t30_) w') Tryz.func35 rfl rfl (by kernel_rfl) (fun _ => by kernel_rfl) rfl ?_ ?_)
  ·
   refine T.seq (T.region (T.pk sN (fun _ => by kernel_rfl) (T.nil (T.seq (T.region (T.pk sN (fun _ => by kernel_rfl) (T.nil (T.seq (T.seq (T.region (T.p3 (.slice (some ⟨b12, 0, none⟩) 1 1) (vi 1) (vi 0) (fun _ => by kernel_rfl) (T.nil (T.block ?_)))))))))))))
   refine T.rounds 2 ?_
   refine T.round ?_
   refine T.seq (T.region (T.pk (.bool true) (fun _ => by kernel_rfl) (T.nil (T.seq ?_))))
   refine T.cond true (by kernel_rfl) (by kernel_rfl) (fun _ => ?_) (fun h => Bool.noConfusion h)
   refine T.skip_code ?_
   refine T.seq (T.block (T.seq (T.region (T.pk (pB b12 0) (fun _ => by kernel_rfl) (T.look (.string (ByteArray.mk #[47])) (by kernel_rfl) (ld1 0 rfl rfl (fun _ => by kernel_rfl) (by rfl) rfl) ?_)))))
   refine T.pk (.string (ByteArray.mk #[47])) (fun _ => by kernel_rfl) (T.nil (T.seq (T.region (T.p3 (pB b9 0) (.string (ByteArray.mk #[47])) (vi z2) (fun _ => by kernel_rfl) ?_))))
   obtain ⟨r21, hb22, hX7⟩ := ob hX7
   let t31_ : List HObj := i18_ :: i16_ :: []
   let t32_ : List HObj := i20_ :: t31_
   let t33_ : List HObj := i22_ :: t32_
   let t34_ : List HObj := (row 9 eStr A28 c28 z11) :: t33_
   let t35_ : List HObj := i29_ :: t34_
   let t36_ : List HObj := i11_ :: t35_
   let v45_ : List Value := [pB b9 0, .string (ByteArray.mk #[47]), vi z2]
   refine T.step (W1.callI 20 v45_ (fun v w' => ∃ (V27 : View), View.le V19 V27 ∧ v = .tuple #[.string r21.1, vi r21.2] ∧ Hp w V27 t36_ w') (by kernel_rfl) (fun _ => by kernel_rfl) (fun w' hh => fs_FS_Kind_fr_l F z1 z2 z3 (ByteArray.mk #[47]) z2 r21 hb22 w hGl b9 A6 c6 V19 t35_ w' (SlOk.mono hs7 (vt (vt hV12 hV18) hV19)) (hh.ix 6 [5, 0, 1, 2, 3, 4])) ?_)
   rintro v w' ⟨V27, hV27, rfl, hh⟩
   refine ⟨V27, t30_, hh.ix 6 [1, 2, 3, 4, 5, 0], ?_⟩
   clear hh
   refine T.p5 (.tuple #[.string r21.1, vi r21.2]) (.string r21.1) (vi r21.2) (.string r21.1) (vi r21.2) (fun _ => by kernel_rfl) (T.nil (T.seq (T.region (T.p3 (pB b9 0) (.string (ByteArray.mk #[47])) (vi z2) (fun _ => by kernel_rfl) ?_))))
   obtain ⟨r22, hb23, hX7⟩ := ob hX7
   refine T.step (W1.callI 25 v45_ (fun v w' => ∃ (V28 : View), View.le V27 V28 ∧ v = .tuple #[.string r22.1, vi r22.2] ∧ Hp w V28 t36_ w') (by kernel_rfl) (fun _ => by kernel_rfl) (fun w' hh => fs_FS_Read_fr_l F z1 z2 z3 (ByteArray.mk #[47]) z2 r22 hb23 w hGl b9 A6 c6 V27 t35_ w' (SlOk.mono hs7 (vt (vt (vt hV12 hV18) hV19) hV27)) (hh.ix 6 [5, 0, 1, 2, 3, 4])) ?_)
   rintro v w' ⟨V28, hV28, rfl, hh⟩
   refine ⟨V28, t30_, hh.ix 6 [1, 2, 3, 4, 5, 0], ?_⟩
   clear hh
   refine T.p5 (.tuple #[.string r22.1, vi r22.2]) (.string r22.1) (vi r22.2) (.string r22.1) (vi r22.2) (fun _ => by kernel_rfl) (T.nil (T.seq (T.region (T.p3 (pB b9 0) (.string (ByteArray.mk #[47])) (vi z2) (fun _ => by kernel_rfl) ?_))))
   obtain ⟨r23, hb24, hX7⟩ := ob hX7
   refine T.step (W1.callI 34 v45_ (fun v w' => ∃ (A33 : Option Addr) (c33 : Nat) (V29 : View), View.le V28 V29 ∧ SlOk (made w V29) eStr A33 c33 r23.1 ∧ v = .tuple #[.slice A33 r23.1.length c33, vi r23.2] ∧ Hp w V29 t36_ w') (by kernel_rfl) (fun _ => by kernel_rfl) (fun w' hh => fs_FS_List_fr_l F z1 z2 z3 (ByteArray.mk #[47]) z2 r23 hb24 w hGl b9 A6 c6 V28 t35_ w' (SlOk.mono hs7 (vt (vt (vt (vt hV12 hV18) hV19) hV27) hV28)) (hh.ix 6 [5, 0, 1, 2, 3, 4])) ?_)
   rintro v w' ⟨A33, c33, V29, hV29, hs26, rfl, hh⟩
   refine ⟨V29, t30_, hh.ix 6 [1, 2, 3, 4, 5, 0], ?_⟩
   clear hh
   refine T.p5 (.tuple #[.slice A33 r23.1.length c33, vi r23.2]) (.slice A33 r23.1.length c33) (vi r23.2) (.slice A33 r23.1.length c33) (vi r23.2) (fun _ => by kernel_rfl) (T.nil (T.seq (T.region (T.p4 sN (.string r21.1) (.string r22.1) (vi r21.2) (fun _ => by kernel_rfl) ?_))))
   obtain ⟨r24, hb25, hX7⟩ := ob hX7
   refine T.step (W1.call (vSc eStr) r24 71 #[vi r21.2] (by kernel_rfl) (fun _ => by kernel_rfl) (fun w' hh => annalref_Dec_l r21.2 r24 hb25 w' ) ?_)
   intro u V30 hV30 hu
   obtain rfl := sureStr _ _ _ hu
   refine T.pk (vi r22.2) (fun _ => by kernel_rfl) ?_
   obtain ⟨r25, hb26, hX7⟩ := ob hX7
   refine T.step (W1.call (vSc eStr) r25 71 #[vi r22.2] (by kernel_rfl) (fun _ => by kernel_rfl) (fun w' hh => annalref_Dec_l r22.2 r25 hb26 w' ) ?_)
   intro u V31 hV31 hu
   obtain rfl := sureStr _ _ _ hu
   refine T.pk (vi r23.2) (fun _ => by kernel_rfl) ?_
   obtain ⟨r26, hb27, hX7⟩ := ob hX7
   refine T.step (W1.call (vSc eStr) r26 71 #[vi r23.2] (by kernel_rfl) (fun _ => by kernel_rfl) (fun w' hh => annalref_Dec_l r23.2 r26 hb27 w' ) ?_)
   intro u V32 hV32 hu
   obtain rfl := sureStr _ _ _ hu
   refine T.step (W1.new 9 [.string r21.1, .string r22.1, .string r24, .string r25, .string r26] (fun b => .slice (some ⟨b, 0, none⟩) 5 5) (by kernel_rfl) (fun _ => by kernel_rfl) (fun b13 => ?_))
   refine T.rownil 9 eStr ?_
   obtain ⟨y8, hb28, hX7⟩ := ob hX7
   obtain ⟨hb28_r, hb28_m, rfl⟩ := grow_some hb28
   obtain ⟨ti, hti, hz1, hz2, hz3⟩ := info_parts (P := Tryz.prog) (e := 9) (z := .string (ByteArray.mk #[])) (size := 1) (bytes := 16) (by kernel_rfl)
   refine T.step (W1.append (E := eStr) (l := ([] : List ByteArray)) (m := [r21.1, r22.1, r24, r25, r26]) 0 _ _ 16 ti _ (by rfl) (by kernel_rfl) rfl (by kernel_rfl) hti hz1 hz2 hz3 rfl (by decide) rfl rfl (fun w' hh => (SlOk.srcF (slok_lit (E := eStr) (f := (fun x => [.string x])) [r21.1, r22.1, r24, r25, r26] (fun _ _ => rfl) (Nat.le_of_ble_eq_true (by rfl)) (fun j => hh.cellBox (i := 1) (by rfl) j)) (fun _ _ _ _ h => h))) hb28_r hb28_m (fun A34 c34 => ?_))
   refine T.pk (.slice A34 ((([] : List ByteArray) ++ [r21.1, r22.1, r24, r25, r26]).length) c34) (fun _ => by kernel_rfl) (T.nil (T.region (T.p2 (.slice A34 ((([] : List ByteArray) ++ [r21.1, r22.1, r24, r25, r26]).length) c34) (.slice A33 r23.1.length c33) (fun _ => by kernel_rfl) ?_)))
   obtain ⟨y9, hb29, hX7⟩ := ob hX7
   obtain ⟨hb29_r, hb29_m, rfl⟩ := grow_some hb29
   obtain ⟨ti, hti, hz1, hz2, hz3⟩ := info_parts (P := Tryz.prog) (e := 9) (z := .string (ByteArray.mk #[])) (size := 1) (bytes := 16) (by kernel_rfl)
   refine T.step (W1.append (E := eStr) (l := (([] : List ByteArray) ++ [r21.1, r22.1, r24, r25, r26])) (m := r23.1) 0 _ _ 16 ti _ (by rfl) (by kernel_rfl) rfl (by kernel_rfl) hti hz1 hz2 hz3 rfl (by decide) rfl rfl (fun w' hh => (SlOk.srcF (SlOk.mono (SlOk.mono hs26 (vt (made_le _ _) (vt (vt hV30 hV31) hV32))) hh.view) (fun _ _ _ _ h => h))) hb29_r hb29_m (fun A35 c35 => ?_))
   refine T.pk (.slice A35 (((([] : List ByteArray) ++ [r21.1, r22.1, r24, r25, r26]) ++ r23.1).length) c35) (fun _ => by kernel_rfl) (T.nil (T.region (T.p2 (vi 1) (vi 1) (fun _ => by kernel_rfl) (T.nil ?_))))
   refine T.round ?_
   refine T.seq (T.region (T.pk (.bool false) (fun _ => by kernel_rfl) (T.nil (T.seq ?_))))
   refine T.cond false (by kernel_rfl) (by kernel_rfl) (fun h => Bool.noConfusion h) (fun _ => ?_)
   refine T.exit ?_
   refine T.seq (T.region (T.p2 (.slice A35 (((([] : List ByteArray) ++ [r21.1, r22.1, r24, r25, r26]) ++ r23.1).length) c35) (.slice A35 (((([] : List ByteArray) ++ [r21.1, r22.1, r24, r25, r26]) ++ r23.1).length) c35) (fun _ => by kernel_rfl) (T.nil ?_)))
   cases hX7
   refine T.ret rfl ?_
   exact T.ret1 rfl (ResIs.tmp rfl) fun w' hh => ⟨_, rfl, ⟨A35, c35, V32, (vt (vt (vt (vt (vt hV27 hV28) hV29) hV30) hV31) hV32), rfl, (hh.sub (kp1 (dr1 (kp6 (kp1 kp0)))))⟩⟩
  rintro v w' ⟨A32, c32, V26, hV26, rfl, hh⟩
  refine ⟨V26, ((row 9 eStr A32 c32 z12) :: t30_), hh, ?_⟩
  clear hh
  obtain ⟨r28, hb30, hX3⟩ := ob hX3
  refine T.step (W1.call (vSc eBool) r28 37 #[.slice A28 z11.length c28, .slice A32 z12.length c32] (by kernel_rfl) (fun _ => by kernel_rfl) (fun w' hh => slices_Equal_string_l F z11 z12 r28 hb30 w' A28 c28 (hh.row_slOk (i := 2) (by rfl)) A32 c32 (hh.row_slOk (i := 0) (by rfl))) ?_)
  intro u V33 hV33 hu
  obtain rfl := sureBool _ _ _ hu
  refine T.p2 (.bool r28) (.bool r28) (fun _ => by kernel_rfl) (T.nil ?_)
  cases hX3
  exact fun a w' hf hh => ⟨V33, (vt (vt (vt hV18 hV19) hV26) hV33), (Fr.sel hf rfl), (hh.sub (dr7 (dr1 kp0)))⟩
 rintro a w' ⟨V17, hV17, hf, hh⟩
 refine (?_ : T 81 w V17 [] [(6, .bool z10)] _) a w' hf hh
 clear hf hh
 cases hF
 refine T.ret rfl ?_
 exact T.ret1 rfl (ResIs.tmp rfl) fun w' hh => ⟨_, rfl, hh.below, (show _ from rfl)⟩
end Go.Proofs.YtacjdfhllomccaaGreatDoor
/- Plain Lean: keys and records. Its conditions: none. -/
namespace Go.Proofs.YtacjdfhllomccaaGreatDoor
set_option linter.unusedVariables false
set_option linter.unusedSimpArgs false
def ord (a b : Int) : Int := if a < b then -1 else if b < a then 1 else 0
theorem key_order_eq (a b : Int) : key_order a b = some (ord a b) := by
 unfold key_order ord
 simp only [Bool.cond_eq_ite, decide_eq_true_eq]
 split
 · rfl
 · split <;> rfl
structure Cmp {α : Type} (f : α → α → Int) : Prop where
 one : ∀ a b, f a b = -1 ∨ f a b = 0 ∨ f a b = 1
 neg : ∀ a b, f a b = - f b a
 zero : ∀ a b, f a b = 0 ↔ a = b
 trans : ∀ a b c, f a b ≤ 0 → f b c ≤ 0 → f a c ≤ 0
theorem cmp_ord : Cmp ord := by
 refine ⟨fun a b => ?_, fun a b => ?_, fun a b => ?_, fun a b c => ?_⟩ <;> unfold ord <;> (repeat' split) <;> omega
def lex {α β γ : Type} (p : γ → α) (q : γ → β) (f : α → α → Int) (g : β → β → Int) (x y : γ) : Int := if f (p x) (p y) ≠ 0 then f (p x) (p y) else g (q x) (q y)
theorem Cmp.lexic {α β γ : Type} {p : γ → α} {q : γ → β} {f : α → α → Int} {g : β → β → Int} (hf : Cmp f) (hg : Cmp g) (hpq : ∀ x y, p x = p y → q x = q y → x = y) : Cmp (lex p q f g) := by
 have le : ∀ x y, lex p q f g x y ≤ 0 ↔ (f (p x) (p y) < 0 ∨ f (p x) (p y) = 0 ∧ g (q x) (q y) ≤ 0) := fun x y => by
  unfold lex
  split <;> omega
 refine ⟨fun a b => ?_, fun a b => ?_, fun a b => ?_, fun a b c h1 h2 => ?_⟩
 · unfold lex
   split
   · exact hf.one _ _
   · exact hg.one _ _
 · have h1 := hf.neg (p a) (p b)
   have h2 := hg.neg (q a) (q b)
   unfold lex
   split <;> split <;> omega
 · unfold lex
   split
   · rename_i h
     refine ⟨fun h' => absurd h' h, fun h' => ?_⟩
     subst h'
     exact absurd ((hf.zero _ _).2 rfl) h
   · rename_i h
     have h0 : p a = p b := (hf.zero _ _).1 (by omega)
     rw [hg.zero]
     exact ⟨hpq a b h0, fun h' => by rw [h']⟩
 · rw [le] at h1 h2 ⊢
   have ht := hf.trans (p a) (p b) (p c) (by omega) (by omega)
   rcases Int.lt_or_eq_of_le ht with h | h
   · exact .inl h
   · right
     refine ⟨h, ?_⟩
     have hac := (hf.zero _ _).1 h
     have h3 := hf.neg (p a) (p b)
     rw [hac] at h1 h3
     have h4 : f (p c) (p b) = 0 := by omega
     have h5 : f (p b) (p c) = 0 := by omega
     exact hg.trans _ (q b) _ (by omega) (by omega)
def cmpK : DKey → DKey → Int := lex DKey.pfs (fun k => k) ord (lex DKey.obj DKey.off ord ord)
theorem cmpK_def (a b : DKey) : cmpK a b = if ord a.pfs b.pfs ≠ 0 then ord a.pfs b.pfs else if ord a.obj b.obj ≠ 0 then ord a.obj b.obj else ord a.off b.off := rfl
theorem cmp_cmpK : Cmp cmpK := by
 have h : Cmp (lex Prod.fst Prod.snd ord (lex Prod.fst Prod.snd ord ord) : Int × Int × Int → Int × Int × Int → Int) :=
  cmp_ord.lexic (cmp_ord.lexic cmp_ord fun x y h1 h2 => Prod.ext h1 h2) fun x y h1 h2 => Prod.ext h1 h2
 have e : ∀ a b : DKey, cmpK a b = lex Prod.fst Prod.snd ord (lex Prod.fst Prod.snd ord ord) (a.pfs, a.obj, a.off) (b.pfs, b.obj, b.off) := fun _ _ => rfl
 refine ⟨fun a b => ?_, fun a b => ?_, fun a b => ?_, fun a b c => ?_⟩
 · rw [e]; exact h.one _ _
 · rw [e, e]; exact h.neg _ _
 · rw [e, h.zero]
   obtain ⟨a1, a2, a3⟩ := a
   obtain ⟨b1, b2, b3⟩ := b
   simp
 · rw [e, e, e]; exact h.trans _ _ _
theorem key_Cmp_eq (a b : DKey) : key_Cmp a b = some (cmpK a b) := by
 unfold key_Cmp
 rw [cmpK_def]
 simp only [key_order_eq, Option.bind_some, Bool.cond_eq_ite, bne_iff_ne, ne_eq]
 by_cases h1 : ord a.pfs b.pfs = 0
 · by_cases h2 : ord a.obj b.obj = 0
   · by_cases h3 : ord a.off b.off = 0 <;> simp [h1, h2, h3]
   · simp [h1, h2]
 · simp [h1]
def cmpS : DSpot → DSpot → Int := lex DSpot.key DSpot.made cmpK ord
theorem cmpS_def (a b : DSpot) : cmpS a b = if cmpK a.key b.key ≠ 0 then cmpK a.key b.key else ord a.made b.made := rfl
theorem cmp_cmpS : Cmp cmpS := cmp_cmpK.lexic cmp_ord fun x y h1 h2 => by
 obtain ⟨x1, x2⟩ := x
 obtain ⟨y1, y2⟩ := y
 simp_all
theorem key_CmpSpot_eq (a b : DSpot) : key_CmpSpot a b = some (cmpS a b) := by
 unfold key_CmpSpot
 rw [cmpS_def]
 simp only [key_order_eq, key_Cmp_eq, Option.bind_some, Bool.cond_eq_ite, bne_iff_ne, ne_eq]
 by_cases h1 : cmpK a.key b.key = 0 <;> simp [h1]
def live (e : DElem) (t : Int) : Bool := decide (e.made ≤ t) && (e.gone == 0 || decide (t < e.gone))
theorem elem_Live_eq (e : DElem) (t : Int) : elem_Live e t = some (live e t) := by
 unfold elem_Live live
 simp
def lastE (e : DElem) : Int := if e.made < e.gone then e.gone else e.made
theorem elem_Last_eq (e : DElem) : elem_Last e = some (lastE e) := by
 unfold elem_Last lastE
 simp
def chkK (k : DKey) : Int := if k.pfs < 0 ∨ 15 < k.pfs ∨ k.obj < 0 ∨ 1048576 < k.obj ∨ k.off < 0 ∨ 1073741824 < k.off then 1 else 0
theorem key_Check_eq (k : DKey) : key_Check k = some (chkK k) := by
 unfold key_Check chkK
 simp only [Bool.cond_eq_ite, Bool.or_eq_true, decide_eq_true_eq]
 split <;> rfl
def chkE (e : DElem) : Int :=
 if chkK e.key ≠ 0 then 1 else if e.made < 1 ∨ 2147483647 < e.made ∨ e.gone ≠ 0 ∧ (e.gone ≤ e.made ∨ 2147483647 < e.gone) then 9 else if 40 < e.val.size then 2 else 0
theorem chkK_one (k : DKey) : chkK k = 0 ∨ chkK k = 1 := by unfold chkK; split <;> simp
theorem elem_Check_eq (e : DElem) : elem_Check e = some (chkE e) := by
 unfold elem_Check chkE
 simp only [key_Check_eq, Option.bind_some, Bool.cond_eq_ite, Bool.or_eq_true, Bool.and_eq_true, decide_eq_true_eq, bne_iff_ne, ne_eq]
 rcases chkK_one e.key with h | h
 · simp only [h, not_true_eq_false, if_false]
   by_cases h1 : e.made < 1 ∨ 2147483647 < e.made ∨ ¬e.gone = 0 ∧ (e.gone ≤ e.made ∨ 2147483647 < e.gone)
   · rw [if_pos h1, if_pos h1]
   · rw [if_neg h1, if_neg h1]
     by_cases h2 : 40 < e.val.size
     · rw [if_pos h2, if_pos (by omega)]
     · rw [if_neg h2, if_neg (by omega)]
 · simp [h]
theorem chkE_ok {e : DElem} (h : chkE e = 0) : chkK e.key = 0 ∧ 1 ≤ e.made ∧ e.made ≤ 2147483647 ∧ (e.gone = 0 ∨ e.made < e.gone ∧ e.gone ≤ 2147483647) ∧ e.val.size ≤ 40 := by
 unfold chkE at h
 split at h
 · cases h
 · split at h
   · cases h
   · split at h
     · cases h
     · rename_i h1 h2 h3
       refine ⟨by simpa using h1, ?_⟩
       omega
theorem wrap_i64 {x : Int} (h1 : -9223372036854775808 ≤ x) (h2 : x < 9223372036854775808) : IntKind.i64.wrap x = x := by
 rw [IntKind.wrap_i64]
 omega
end Go.Proofs.YtacjdfhllomccaaGreatDoor
/- Plain Lean: right runs, as lists of records by key. Its conditions: none. -/
namespace Go.Proofs.YtacjdfhllomccaaGreatDoor
set_option linter.unusedVariables false
set_option linter.unusedSimpArgs false
theorem ord_lt {a b : Int} : ord a b < 0 ↔ a < b := by unfold ord; (repeat' split) <;> omega
theorem Cmp.refl {α : Type} {f : α → α → Int} (h : Cmp f) (a : α) : f a a = 0 := (h.zero a a).2 rfl
theorem Cmp.lt_trans {α : Type} {f : α → α → Int} (h : Cmp f) {a b c : α} (h1 : f a b < 0) (h2 : f b c < 0) : f a c < 0 := by
 have h3 := h.trans a b c (by omega) (by omega)
 rcases Int.lt_or_eq_of_le h3 with h4 | h4
 · exact h4
 · have := (h.zero _ _).1 h4
   subst this
   have := h.neg a b
   omega
theorem Cmp.lt_le {α : Type} {f : α → α → Int} (h : Cmp f) {a b c : α} (h1 : f a b < 0) (h2 : f b c ≤ 0) : f a c < 0 := by
 rcases Int.lt_or_eq_of_le h2 with h3 | h3
 · exact h.lt_trans h1 h3
 · have := (h.zero _ _).1 h3; subst this; exact h1
theorem Cmp.pos {α : Type} {f : α → α → Int} (h : Cmp f) {a b : α} : 0 < f a b ↔ f b a < 0 := by
 have := h.neg a b; omega
theorem Cmp.tri {α : Type} {f : α → α → Int} (h : Cmp f) (a b : α) : f a b < 0 ∨ a = b ∨ f b a < 0 := by
 have h1 := h.neg a b
 rcases h.one a b with h2 | h2 | h2
 · left; omega
 · right; left; exact (h.zero _ _).1 h2
 · right; right; omega
def spotE (e : DElem) : DSpot := ⟨e.key, e.made⟩
theorem cmpS_lt {a b : DSpot} : cmpS a b < 0 ↔ cmpK a.key b.key < 0 ∨ (a.key = b.key ∧ a.made < b.made) := by
 rw [cmpS_def]
 by_cases h : cmpK a.key b.key = 0
 · rw [if_neg (by simpa using h), ord_lt]
   have := (cmp_cmpK.zero _ _).1 h
   simp [this, cmp_cmpK.refl]
 · rw [if_pos h]
   have : a.key ≠ b.key := fun e => h ((cmp_cmpK.zero _ _).2 e)
   simp [this]
def Bef (p e : DElem) : Prop := cmpS (spotE p) (spotE e) < 0 ∧ (p.key = e.key → p.gone ≠ 0 ∧ p.gone ≤ e.made)
theorem Bef.key {p e : DElem} (h : Bef p e) : cmpK p.key e.key < 0 ∨ p.key = e.key ∧ p.made < e.made ∧ p.gone ≠ 0 ∧ p.gone ≤ e.made := by
 rcases cmpS_lt.1 h.1 with h1 | h1
 · exact .inl h1
 · exact .inr ⟨h1.1, h1.2, h.2 h1.1⟩
theorem bef_iff {p e : DElem} : Bef p e ↔ cmpK p.key e.key < 0 ∨ p.key = e.key ∧ p.made < e.made ∧ p.gone ≠ 0 ∧ p.gone ≤ e.made := by
 refine ⟨Bef.key, fun h => ⟨?_, ?_⟩⟩
 · rw [cmpS_lt]
   rcases h with h | h
   · exact .inl h
   · exact .inr ⟨h.1, h.2.1⟩
 · intro hk
   rcases h with h | h
   · rw [hk, cmp_cmpK.refl] at h; omega
   · exact h.2.2
theorem Bef.trans {p q e : DElem} (hq : chkE q = 0) (h1 : Bef p q) (h2 : Bef q e) : Bef p e := by
 obtain ⟨_, _, _, h3, _⟩ := chkE_ok hq
 rw [bef_iff] at *
 rcases h1 with h1 | ⟨k1, h1⟩ <;> rcases h2 with h2 | ⟨k2, h2⟩
 · exact .inl (cmp_cmpK.lt_trans h1 h2)
 · rw [← k2]; exact .inl h1
 · rw [k1]; exact .inl h2
 · refine .inr ⟨k1.trans k2, ?_⟩; omega
structure Run (l : List DElem) : Prop where
 len : l.length ≤ 400
 ok : ∀ e ∈ l, chkE e = 0
 ord : l.Pairwise Bef
theorem Run.nil : Run [] := ⟨by simp, by simp, List.Pairwise.nil⟩
theorem Run.sub {l m : List DElem} (h : Run l) (hs : m.Sublist l) : Run m :=
 ⟨Nat.le_trans hs.length_le h.len, fun e he => h.ok e (hs.subset he), h.ord.sublist hs⟩
theorem Bef.irrefl {e : DElem} (h : Bef e e) : False := by
 have := h.1; rw [cmp_cmpS.refl] at this; omega
def hist (l : List DElem) (k : DKey) : List DElem := l.filter fun e => e.key == k
theorem mem_hist {l : List DElem} {k : DKey} {e : DElem} : e ∈ hist l k ↔ e ∈ l ∧ e.key = k := by simp [hist]
theorem Run.hist {l : List DElem} (hl : Run l) (k : DKey) : Run (hist l k) := hl.sub List.filter_sublist
def lo (l : List DElem) (k : DKey) : List DElem := l.filter fun e => decide (cmpK e.key k < 0)
def hi (l : List DElem) (k : DKey) : List DElem := l.filter fun e => decide (0 < cmpK e.key k)
theorem mem_lo {l : List DElem} {k : DKey} {e : DElem} : e ∈ lo l k ↔ e ∈ l ∧ cmpK e.key k < 0 := by simp [lo]
theorem mem_hi {l : List DElem} {k : DKey} {e : DElem} : e ∈ hi l k ↔ e ∈ l ∧ 0 < cmpK e.key k := by simp [hi]
theorem Bef.le {a b : DElem} (h : Bef a b) : cmpK a.key b.key ≤ 0 := by
 rcases h.key with h | h
 · omega
 · rw [h.1, cmp_cmpK.refl]; omega
theorem split3 : ∀ {l : List DElem} (k : DKey), l.Pairwise Bef → l = lo l k ++ (hist l k ++ hi l k)
 | [], k, _ => rfl
 | a :: l, k, h => by
  rw [List.pairwise_cons] at h
  have ih := split3 k h.2
  have low : 0 ≤ cmpK a.key k → lo l k = [] := fun h0 => by
   unfold lo
   rw [List.filter_eq_nil_iff]
   intro e he
   have h1 := (h.1 e he).le
   have h2 := cmp_cmpK.trans k a.key e.key (by have := cmp_cmpK.neg k a.key; omega) h1
   have := cmp_cmpK.neg k e.key
   simp; omega
  have mid : 0 < cmpK a.key k → hist l k = [] := fun h0 => by
   unfold hist
   rw [List.filter_eq_nil_iff]
   intro e he
   have h1 := (h.1 e he).le
   have h2 := cmp_cmpK.lt_le (a := k) (b := a.key) (c := e.key) (by have := cmp_cmpK.neg k a.key; omega) h1
   simp
   intro e'
   rw [e', cmp_cmpK.refl] at h2
   omega
  rcases cmp_cmpK.tri a.key k with h1 | h1 | h1
  · have e1 : lo (a :: l) k = a :: lo l k := by unfold lo; rw [List.filter_cons_of_pos (by simpa using h1)]
    have e2 : hist (a :: l) k = hist l k := by
     unfold hist; rw [List.filter_cons_of_neg]; simp
     intro e; rw [e, cmp_cmpK.refl] at h1; omega
    have e3 : hi (a :: l) k = hi l k := by unfold hi; rw [List.filter_cons_of_neg]; simp; omega
    rw [e1, e2, e3, List.cons_append, ← ih]
  · have e0 : cmpK a.key k = 0 := by rw [h1, cmp_cmpK.refl]
    have e1 : lo (a :: l) k = [] := by
     have := low (by omega); unfold lo at *; rw [List.filter_cons_of_neg (by simp; omega)]; exact this
    have e2 : hist (a :: l) k = a :: hist l k := by unfold hist; rw [List.filter_cons_of_pos (by simpa using h1)]
    have e3 : hi (a :: l) k = hi l k := by unfold hi; rw [List.filter_cons_of_neg]; simp; omega
    rw [e1, e2, e3]
    rw [low (by omega), List.nil_append] at ih
    rw [List.nil_append, List.cons_append, ← ih]
  · have e0 : 0 < cmpK a.key k := cmp_cmpK.pos.2 h1
    have e1 : lo (a :: l) k = [] := by
     have := low (by omega); unfold lo at *; rw [List.filter_cons_of_neg (by simp; omega)]; exact this
    have e2 : hist (a :: l) k = [] := by
     have := mid e0; unfold hist at *; rw [List.filter_cons_of_neg]; exact this
     simp; intro e; rw [e, cmp_cmpK.refl] at h1; omega
    have e3 : hi (a :: l) k = a :: hi l k := by unfold hi; rw [List.filter_cons_of_pos (by simpa using e0)]
    rw [e1, e2, e3]
    rw [low (by omega), mid e0, List.nil_append, List.nil_append] at ih
    rw [List.nil_append, List.nil_append, ← ih]
def upd (l : List DElem) (k : DKey) (h : List DElem) : List DElem := lo l k ++ (h ++ hi l k)
theorem hist_append (a b : List DElem) (k : DKey) : hist (a ++ b) k = hist a k ++ hist b k := List.filter_append ..
theorem hist_self {h : List DElem} {k : DKey} (hk : ∀ e ∈ h, e.key = k) : hist h k = h := by
 unfold hist; rw [List.filter_eq_self]; intro e he; simpa using hk e he
theorem hist_other {h : List DElem} {k' : DKey} (hk : ∀ e ∈ h, e.key ≠ k') : hist h k' = [] := by
 unfold hist; rw [List.filter_eq_nil_iff]; intro e he; simpa using hk e he
theorem hist_upd_self {l : List DElem} {k : DKey} {h : List DElem} (hk : ∀ e ∈ h, e.key = k) : hist (upd l k h) k = h := by
 unfold upd
 rw [hist_append, hist_append, hist_self hk, hist_other (h := lo l k) (k' := k), hist_other (h := hi l k) (k' := k), List.append_nil, List.nil_append]
 · intro e he e'; have := (mem_hi.1 he).2; rw [e', cmp_cmpK.refl] at this; omega
 · intro e he e'; have := (mem_lo.1 he).2; rw [e', cmp_cmpK.refl] at this; omega
theorem hist_upd_other {l : List DElem} {k k' : DKey} {h : List DElem} (hl : l.Pairwise Bef) (hk : ∀ e ∈ h, e.key = k) (hne : k' ≠ k) : hist (upd l k h) k' = hist l k' := by
 conv => rhs; rw [split3 k hl]
 unfold upd
 rw [hist_append, hist_append, hist_append, hist_append, hist_other (h := h) (k' := k'), hist_other (h := hist l k) (k' := k')]
 · intro e he; rw [(mem_hist.1 he).2]; exact fun e => hne e.symm
 · intro e he; rw [hk e he]; exact fun e => hne e.symm
theorem upd_length {l : List DElem} {k : DKey} {h : List DElem} (hl : l.Pairwise Bef) : (upd l k h).length + (hist l k).length = l.length + h.length := by
 have := congrArg List.length (split3 k hl)
 unfold upd
 simp only [List.length_append] at *
 omega
theorem upd_hist {l : List DElem} (k : DKey) (hl : l.Pairwise Bef) : upd l k (hist l k) = l := (split3 k hl).symm
theorem mem_upd {l : List DElem} {k : DKey} {h : List DElem} {e : DElem} (hl : l.Pairwise Bef) : e ∈ upd l k h ↔ e ∈ h ∨ e ∈ l ∧ e.key ≠ k := by
 unfold upd
 rw [List.mem_append, List.mem_append, mem_lo, mem_hi]
 constructor
 · rintro (⟨h1, h2⟩ | h1 | ⟨h1, h2⟩)
   · exact .inr ⟨h1, fun e => by rw [e, cmp_cmpK.refl] at h2; omega⟩
   · exact .inl h1
   · exact .inr ⟨h1, fun e => by rw [e, cmp_cmpK.refl] at h2; omega⟩
 · rintro (h1 | ⟨h1, h2⟩)
   · exact .inr (.inl h1)
   · rcases cmp_cmpK.tri e.key k with h3 | h3 | h3
     · exact .inl ⟨h1, h3⟩
     · exact absurd h3 h2
     · exact .inr (.inr ⟨h1, cmp_cmpK.pos.2 h3⟩)
theorem Run.upd {l : List DElem} {k : DKey} {h : List DElem} (hl : Run l) (hk : ∀ e ∈ h, e.key = k) (ho : ∀ e ∈ h, chkE e = 0) (hp : h.Pairwise Bef) (hn : (upd l k h).length ≤ 400) : Run (upd l k h) := by
 refine ⟨hn, fun e he => ?_, ?_⟩
 · rcases (mem_upd hl.ord).1 he with h1 | h1
   · exact ho e h1
   · exact hl.ok e h1.1
 · unfold Go.Proofs.YtacjdfhllomccaaGreatDoor.upd
   rw [List.pairwise_append, List.pairwise_append]
   refine ⟨hl.ord.sublist List.filter_sublist, ⟨hp, hl.ord.sublist List.filter_sublist, fun a ha b hb => ?_⟩, fun a ha b hb => ?_⟩
   · rw [bef_iff]; left
     have := (mem_hi.1 hb).2
     rw [hk a ha]; exact cmp_cmpK.pos.1 this
   · rw [bef_iff]; left
     have h1 := (mem_lo.1 ha).2
     rcases List.mem_append.1 hb with hb | hb
     · rw [hk b hb]; exact h1
     · exact cmp_cmpK.lt_trans h1 (cmp_cmpK.pos.1 (mem_hi.1 hb).2)
def lastL (l : List DElem) : Int := l.foldl (fun t e => if t < lastE e then lastE e else t) 0
theorem lastL_from (l : List DElem) : ∀ t0 t : Int, l.foldl (fun t e => if t < lastE e then lastE e else t) t0 ≤ t ↔ t0 ≤ t ∧ ∀ e ∈ l, lastE e ≤ t := by
 induction l with
 | nil => intro t0 t; simp
 | cons a l ih =>
  intro t0 t
  rw [List.foldl_cons, ih, List.forall_mem_cons]
  split <;> constructor <;> rintro ⟨h1, h2⟩
  · exact ⟨by omega, by omega, h2⟩
  · exact ⟨h2.1, h2.2⟩
  · exact ⟨by omega, by omega, h2⟩
  · exact ⟨h1, h2.2⟩
theorem lastL_le {l : List DElem} {t : Int} : lastL l ≤ t ↔ 0 ≤ t ∧ ∀ e ∈ l, lastE e ≤ t := lastL_from l 0 t
theorem le_lastL {l : List DElem} {e : DElem} (h : e ∈ l) : lastE e ≤ lastL l := ((lastL_le (l := l) (t := lastL l)).1 (Int.le_refl _)).2 e h
theorem lastE_le {e : DElem} {t : Int} : lastE e ≤ t ↔ e.made ≤ t ∧ e.gone ≤ t := by unfold lastE; split <;> omega
theorem Run.last_le {l : List DElem} (h : Run l) : lastL l ≤ 2147483647 := by
 rw [lastL_le]
 refine ⟨by omega, fun e he => ?_⟩
 obtain ⟨_, _, _, _, _⟩ := chkE_ok (h.ok e he)
 rw [lastE_le]; omega
theorem pair_cases {α : Type} {R : α → α → Prop} : ∀ {l : List α}, l.Pairwise R → ∀ {a b : α}, a ∈ l → b ∈ l → a = b ∨ R a b ∨ R b a
 | [], _, _, _, h, _ => by simp at h
 | c :: l, h, a, b, ha, hb => by
  rw [List.pairwise_cons] at h
  rcases List.mem_cons.1 ha with ha | ha <;> rcases List.mem_cons.1 hb with hb | hb
  · left; rw [ha, hb]
  · right; left; rw [ha]; exact h.1 b hb
  · right; right; rw [hb]; exact h.1 a ha
  · exact pair_cases h.2 ha hb
theorem live_iff {e : DElem} {t : Int} : live e t = true ↔ e.made ≤ t ∧ (e.gone = 0 ∨ t < e.gone) := by unfold live; simp
theorem Run.live_one {l : List DElem} (h : l.Pairwise Bef) {a b : DElem} (ha : a ∈ l) (hb : b ∈ l) (hk : a.key = b.key) {t : Int} (la : live a t = true) (lb : live b t = true) : a = b := by
 rw [live_iff] at la lb
 have bad : ∀ {x y : DElem}, Bef x y → x.key = y.key → (x.made ≤ t ∧ (x.gone = 0 ∨ t < x.gone)) → (y.made ≤ t ∧ (y.gone = 0 ∨ t < y.gone)) → False := fun hb hk h1 h2 => by
  have := hb.2 hk; omega
 rcases pair_cases h ha hb with h1 | h1 | h1
 · exact h1
 · exact (bad h1 hk la lb).elim
 · exact (bad h1 hk.symm lb la).elim
def atR (l : List DElem) (k : DKey) (t : Int) : Option DElem := l.find? fun e => e.key == k && live e t
theorem atR_hist (l : List DElem) (k : DKey) (t : Int) : atR l k t = (hist l k).find? fun e => live e t := by
 unfold atR hist; rw [List.find?_filter]; congr 1; funext e; cases e.key == k <;> simp
theorem atR_some {l : List DElem} (h : l.Pairwise Bef) {k : DKey} {t : Int} {e : DElem} : atR l k t = some e ↔ e ∈ l ∧ e.key = k ∧ live e t = true := by
 unfold atR
 constructor
 · intro hf
   have h1 := List.mem_of_find?_eq_some hf
   have h2 := List.find?_some hf
   simp only [Bool.and_eq_true, beq_iff_eq] at h2
   exact ⟨h1, h2⟩
 · rintro ⟨h1, h2, h3⟩
   cases hf : l.find? (fun e => e.key == k && live e t) with
   | none =>
    rw [List.find?_eq_none] at hf
    have := hf e h1
    simp [h2, h3] at this
   | some a =>
    have g1 := List.mem_of_find?_eq_some hf
    have g2 := List.find?_some hf
    simp only [Bool.and_eq_true, beq_iff_eq] at g2
    rw [Run.live_one h g1 h1 (g2.1.trans h2.symm) g2.2 h3]
theorem live_late {e : DElem} {t : Int} (h : lastE e ≤ t) : live e t = (e.gone == 0) := by
 rw [lastE_le] at h
 rw [Bool.eq_iff_iff, live_iff]; simp; omega
def cl (t : Int) (e : DElem) : Option DElem := if e.gone = 0 then if e.made = t then none else some { e with gone := t } else some e
def clo (h : List DElem) (t : Int) : List DElem := h.filterMap (cl t)
def newE (k : DKey) (v : ByteArray) (t : Int) : DElem := ⟨k, t, 0, v⟩
def cutR (l : List DElem) (k : DKey) (t : Int) : List DElem := upd l k (clo (hist l k) t)
def putR (l : List DElem) (k : DKey) (v : ByteArray) (t : Int) : List DElem := upd l k (clo (hist l k) t ++ [newE k v t])
theorem cl_some {t : Int} {e x : DElem} : cl t e = some x ↔ (e.gone ≠ 0 ∧ x = e) ∨ (e.gone = 0 ∧ e.made ≠ t ∧ x = { e with gone := t }) := by
 unfold cl
 split
 · split
   · simp_all
   · rename_i h1 h2
     simp only [Option.some.injEq]
     constructor
     · rintro rfl; exact .inr ⟨h1, h2, rfl⟩
     · rintro (h | h)
       · exact absurd h1 h.1
       · exact h.2.2.symm
 · rename_i h1
   simp only [Option.some.injEq]
   constructor
   · rintro rfl; exact .inl ⟨h1, rfl⟩
   · rintro (h | h)
     · exact h.2.symm
     · exact absurd h.1 h1
theorem mem_clo {h : List DElem} {t : Int} {x : DElem} : x ∈ clo h t ↔ (x ∈ h ∧ x.gone ≠ 0) ∨ ∃ e ∈ h, e.gone = 0 ∧ e.made ≠ t ∧ x = { e with gone := t } := by
 unfold clo
 rw [List.mem_filterMap]
 constructor
 · rintro ⟨e, he, h1⟩
   rcases cl_some.1 h1 with ⟨h2, rfl⟩ | h2
   · exact .inl ⟨he, h2⟩
   · exact .inr ⟨e, he, h2⟩
 · rintro (⟨h1, h2⟩ | ⟨e, he, h2⟩)
   · exact ⟨x, h1, cl_some.2 (.inl ⟨h2, rfl⟩)⟩
   · exact ⟨e, he, cl_some.2 (.inr h2)⟩
theorem clo_append (a b : List DElem) (t : Int) : clo (a ++ b) t = clo a t ++ clo b t := List.filterMap_append ..
theorem clo_gone {h : List DElem} {t : Int} (hg : ∀ e ∈ h, e.gone ≠ 0) : clo h t = h := by
 unfold clo
 induction h with
 | nil => rfl
 | cons a h ih =>
  rw [List.filterMap_cons_some (b := a) (cl_some.2 (.inl ⟨hg a (by simp), rfl⟩)), ih fun e he => hg e (by simp [he])]
theorem gone_clo {h : List DElem} {t : Int} (ht : t ≠ 0) : ∀ e ∈ clo h t, e.gone ≠ 0 := fun e he => by
 rcases mem_clo.1 he with h1 | ⟨e', _, _, _, rfl⟩
 · exact h1.2
 · exact ht
theorem clo_length (h : List DElem) (t : Int) : (clo h t).length ≤ h.length := List.length_filterMap_le ..
theorem keys_clo {h : List DElem} {k : DKey} {t : Int} (hk : ∀ e ∈ h, e.key = k) : ∀ e ∈ clo h t, e.key = k := fun e he => by
 rcases mem_clo.1 he with h1 | ⟨e', he', _, _, rfl⟩
 · exact hk e h1.1
 · exact hk e' he'
theorem hist_open {h : List DElem} {k : DKey} (hp : h.Pairwise Bef) (hk : ∀ e ∈ h, e.key = k) {a b : List DElem} {e : DElem} (he : h = a ++ e :: b) (hg : e.gone = 0) : b = [] := by
 subst he
 cases b with
 | nil => rfl
 | cons x b =>
  rw [List.pairwise_append, List.pairwise_cons] at hp
  have := (hp.2.1.1 x (by simp)).2 (by rw [hk e (by simp), hk x (by simp)])
  exact absurd hg this.1
theorem clo_ok {h : List DElem} {k : DKey} {t : Int} (hk : ∀ e ∈ h, e.key = k) (ho : ∀ e ∈ h, chkE e = 0) (hp : h.Pairwise Bef) (ht : ∀ e ∈ h, lastE e ≤ t) (h0 : 1 ≤ t) (h1 : t ≤ 2147483647) :
 (∀ e ∈ clo h t, chkE e = 0) ∧ (clo h t).Pairwise Bef ∧ (∀ e ∈ clo h t, e.gone ≤ t ∧ e.made < t) := by
 refine ⟨fun e he => ?_, ?_, fun e he => ?_⟩
 · rcases mem_clo.1 he with h2 | ⟨e', he', hg, hm, rfl⟩
   · exact ho e h2.1
   · have h3 := ho e' he'
     have h4 := lastE_le.1 (ht e' he')
     obtain ⟨c1, c2, c3, c4, c5⟩ := chkE_ok h3
     unfold chkE
     dsimp only
     rw [if_neg (by simpa using c1), if_neg (by omega), if_neg (by omega)]
 · unfold clo
   rw [List.pairwise_filterMap]
   refine hp.imp_of_mem ?_
   intro a b ha hb hab x hx y hy
   have g := hab.2 (by rw [hk a ha, hk b hb])
   rcases cl_some.1 (show cl t a = some x from hx) with ⟨_, rfl⟩ | ⟨h2, _⟩
   · rcases cl_some.1 (show cl t b = some y from hy) with ⟨_, rfl⟩ | ⟨_, _, rfl⟩
     · exact hab
     · exact hab
   · exact absurd h2 g.1
 · rcases mem_clo.1 he with ⟨h2, h3⟩ | ⟨e', he', hg, hm, rfl⟩
   · have h4 := lastE_le.1 (ht e h2)
     obtain ⟨_, c2, c3, c4, _⟩ := chkE_ok (ho e h2)
     omega
   · have h4 := lastE_le.1 (ht e' he')
     dsimp only
     omega
theorem newE_ok {k : DKey} {v : ByteArray} {t : Int} (hc : chkE (newE k v t) = 0) : chkK k = 0 ∧ 1 ≤ t ∧ t ≤ 2147483647 ∧ v.size ≤ 40 := by
 obtain ⟨h1, h2, h3, h4, h5⟩ := chkE_ok hc
 exact ⟨h1, h2, h3, h5⟩
theorem chkE_new {k : DKey} {v : ByteArray} {t : Int} (h1 : chkK k = 0) (h2 : 1 ≤ t) (h3 : t ≤ 2147483647) (h4 : v.size ≤ 40) : chkE (newE k v t) = 0 := by
 unfold chkE newE
 dsimp only
 rw [if_neg (by simpa using h1), if_neg (by omega), if_neg (by omega)]
section
variable {l : List DElem} {k : DKey} {t : Int} {v : ByteArray}
theorem hist_keys (l : List DElem) (k : DKey) : ∀ e ∈ hist l k, e.key = k := fun e he => (mem_hist.1 he).2
theorem Run.clo (h : Run l) (ht : lastL l ≤ t) (h0 : 1 ≤ t) (h1 : t ≤ 2147483647) (k : DKey) :
 (∀ e ∈ clo (Go.Proofs.YtacjdfhllomccaaGreatDoor.hist l k) t, chkE e = 0) ∧ (Go.Proofs.YtacjdfhllomccaaGreatDoor.clo (Go.Proofs.YtacjdfhllomccaaGreatDoor.hist l k) t).Pairwise Bef ∧ (∀ e ∈ Go.Proofs.YtacjdfhllomccaaGreatDoor.clo (Go.Proofs.YtacjdfhllomccaaGreatDoor.hist l k) t, e.gone ≤ t ∧ e.made < t) :=
 clo_ok (hist_keys l k) (h.hist k).ok (h.hist k).ord (fun e he => by have := le_lastL (mem_hist.1 he).1; omega) h0 h1
theorem Run.cutR (h : Run l) (ht : lastL l ≤ t) (h0 : 1 ≤ t) (h1 : t ≤ 2147483647) (k : DKey) : Run (cutR l k t) := by
 obtain ⟨c1, c2, c3⟩ := h.clo ht h0 h1 k
 refine h.upd (keys_clo (hist_keys l k)) c1 c2 ?_
 have h2 := upd_length (k := k) (h := Go.Proofs.YtacjdfhllomccaaGreatDoor.clo (Go.Proofs.YtacjdfhllomccaaGreatDoor.hist l k) t) h.ord
 have h3 := clo_length (Go.Proofs.YtacjdfhllomccaaGreatDoor.hist l k) t
 have := h.len
 omega
theorem put_hist (h : Run l) (ht : lastL l ≤ t) (hc : chkE (newE k v t) = 0) :
 (∀ e ∈ clo (hist l k) t ++ [newE k v t], e.key = k) ∧ (∀ e ∈ clo (hist l k) t ++ [newE k v t], chkE e = 0) ∧ (clo (hist l k) t ++ [newE k v t]).Pairwise Bef := by
 obtain ⟨_, h0, h1, _⟩ := newE_ok hc
 obtain ⟨c1, c2, c3⟩ := h.clo ht h0 h1 k
 refine ⟨fun e he => ?_, fun e he => ?_, ?_⟩
 · rcases List.mem_append.1 he with he | he
   · exact keys_clo (hist_keys l k) e he
   · simp at he; subst he; rfl
 · rcases List.mem_append.1 he with he | he
   · exact c1 e he
   · simp at he; subst he; exact hc
 · rw [List.pairwise_append]
   refine ⟨c2, by simp, fun a ha b hb => ?_⟩
   simp at hb; subst hb
   have h2 := c3 a ha
   rw [bef_iff]
   right
   refine ⟨keys_clo (hist_keys l k) a ha, h2.2, gone_clo (by omega) a ha, h2.1⟩
theorem Run.putR (h : Run l) (ht : lastL l ≤ t) (hc : chkE (newE k v t) = 0) (hn : (putR l k v t).length ≤ 400) : Run (putR l k v t) := by
 obtain ⟨h1, h2, h3⟩ := put_hist h ht hc
 exact h.upd h1 h2 h3 hn
theorem hist_cut (h : Run l) : hist (cutR l k t) k = clo (hist l k) t := hist_upd_self (keys_clo (hist_keys l k))
theorem hist_cut_other (h : Run l) {k' : DKey} (hne : k' ≠ k) : hist (cutR l k t) k' = hist l k' := hist_upd_other h.ord (keys_clo (hist_keys l k)) hne
theorem new_keys {h : List DElem} (hk : ∀ e ∈ h, e.key = k) : ∀ e ∈ clo h t ++ [newE k v t], e.key = k := fun e he => by
 rcases List.mem_append.1 he with he | he
 · exact keys_clo hk e he
 · simp at he; subst he; rfl
theorem hist_put : hist (putR l k v t) k = clo (hist l k) t ++ [newE k v t] := hist_upd_self (new_keys (hist_keys l k))
theorem hist_put_other (h : Run l) {k' : DKey} (hne : k' ≠ k) : hist (putR l k v t) k' = hist l k' := hist_upd_other h.ord (new_keys (hist_keys l k)) hne
theorem last_cut (h : Run l) (ht : lastL l ≤ t) (h0 : 1 ≤ t) (h1 : t ≤ 2147483647) : lastL (cutR l k t) ≤ t := by
 obtain ⟨c1, c2, c3⟩ := h.clo ht h0 h1 k
 rw [lastL_le]
 refine ⟨by omega, fun e he => ?_⟩
 rcases (mem_upd h.ord).1 he with he | he
 · have := c3 e he; rw [lastE_le]; omega
 · have := le_lastL he.1; omega
theorem last_put (h : Run l) (ht : lastL l ≤ t) (hc : chkE (newE k v t) = 0) : lastL (putR l k v t) = t := by
 obtain ⟨_, h0, h1, _⟩ := newE_ok hc
 obtain ⟨c1, c2, c3⟩ := h.clo ht h0 h1 k
 have hm : newE k v t ∈ putR l k v t := (mem_upd h.ord).2 (.inl (by simp))
 have hle := le_lastL hm
 have he : lastE (newE k v t) = t := by unfold lastE newE; dsimp only; rw [if_neg (by omega)]
 have : lastL (putR l k v t) ≤ t := by
  rw [lastL_le]
  refine ⟨by omega, fun e he => ?_⟩
  rcases (mem_upd h.ord).1 he with he | he
  · rcases List.mem_append.1 he with he | he
    · have := c3 e he; rw [lastE_le]; omega
    · simp at he; subst he; omega
  · have := le_lastL he.1; omega
 omega
def endE (t : Int) (e : DElem) : DElem := if e.gone = 0 then { e with gone := t } else e
theorem find_clo_late (h : List DElem) {t u : Int} (ht : ∀ e ∈ clo h t, e.gone ≤ t) (h0 : 1 ≤ t) (hu : t ≤ u) : (clo h t).find? (fun e => live e u) = none := by
 rw [List.find?_eq_none]
 intro e he
 have h1 := gone_clo (show t ≠ 0 by omega) e he
 have h2 := ht e he
 rw [live_iff]; omega
theorem find_clo_past (h : List DElem) {t u : Int} (hu : u < t) : (clo h t).find? (fun e => live e u) = (h.find? fun e => live e u).map (endE t) := by
 induction h with
 | nil => rfl
 | cons a h ih =>
  have hl : ∀ x, cl t a = some x → (live x u = live a u ∧ x = endE t a) := fun x hx => by
   unfold endE
   rcases cl_some.1 hx with ⟨h1, rfl⟩ | ⟨h1, h2, rfl⟩
   · rw [if_neg h1]; exact ⟨rfl, rfl⟩
   · rw [if_pos h1]
     refine ⟨?_, rfl⟩
     rw [Bool.eq_iff_iff, live_iff, live_iff]; dsimp only; omega
  unfold clo at ih ⊢
  cases hc : cl t a with
  | none =>
   rw [List.filterMap_cons_none hc, ih, List.find?_cons_of_neg]
   unfold cl at hc
   split at hc
   · split at hc
     · rw [live_iff]; omega
     · cases hc
   · cases hc
  | some x =>
   obtain ⟨h1, rfl⟩ := hl x hc
   rw [List.filterMap_cons_some hc, List.find?_cons, List.find?_cons, h1]
   cases live a u
   · exact ih
   · rfl
theorem at_put_other (h : Run l) {k' : DKey} (hne : k' ≠ k) (u : Int) : atR (putR l k v t) k' u = atR l k' u := by
 rw [atR_hist, atR_hist, hist_put_other h hne]
theorem at_cut_other (h : Run l) {k' : DKey} (hne : k' ≠ k) (u : Int) : atR (cutR l k t) k' u = atR l k' u := by
 rw [atR_hist, atR_hist, hist_cut_other h hne]
theorem at_put_self (h : Run l) (ht : lastL l ≤ t) (hc : chkE (newE k v t) = 0) {u : Int} (hu : t ≤ u) : atR (putR l k v t) k u = some (newE k v t) := by
 obtain ⟨_, h0, h1, _⟩ := newE_ok hc
 obtain ⟨c1, c2, c3⟩ := h.clo ht h0 h1 k
 rw [atR_hist, hist_put, List.find?_append, find_clo_late _ (fun e he => (c3 e he).1) h0 hu, Option.none_or, List.find?_cons_of_pos]
 rw [live_iff]; unfold newE; dsimp only; omega
theorem at_cut_self (h : Run l) (ht : lastL l ≤ t) (h0 : 1 ≤ t) (h1 : t ≤ 2147483647) {u : Int} (hu : t ≤ u) : atR (cutR l k t) k u = none := by
 obtain ⟨c1, c2, c3⟩ := h.clo ht h0 h1 k
 rw [atR_hist, hist_cut h, find_clo_late _ (fun e he => (c3 e he).1) h0 hu]
theorem at_put_past {u : Int} (hu : u < t) : atR (putR l k v t) k u = (atR l k u).map (endE t) := by
 rw [atR_hist, atR_hist, hist_put, List.find?_append, find_clo_past _ hu]
 cases (hist l k).find? (fun e => live e u) with
 | some e => rfl
 | none =>
  rw [Option.map_none, Option.none_or, List.find?_cons_of_neg]
  · rfl
  · rw [live_iff]; unfold newE; dsimp only; omega
theorem at_cut_past (h : Run l) {u : Int} (hu : u < t) : atR (cutR l k t) k u = (atR l k u).map (endE t) := by
 rw [atR_hist, atR_hist, hist_cut h, find_clo_past _ hu]
def nowR (l : List DElem) (k : DKey) : Option DElem := (hist l k).find? fun e => e.gone == 0
theorem nowR_at (h : Run l) {u : Int} (hu : lastL l ≤ u) (k : DKey) : atR l k u = nowR l k := by
 rw [atR_hist]
 unfold nowR
 have key : ∀ h : List DElem, (∀ e ∈ h, lastE e ≤ u) → h.find? (fun e => live e u) = h.find? fun e => e.gone == 0 := by
  intro h
  induction h with
  | nil => intro _; rfl
  | cons a h ih =>
   intro hh
   rw [List.find?_cons, List.find?_cons, live_late (hh a (by simp)), ih fun e he => hh e (by simp [he])]
 exact key _ fun e he => by have := le_lastL (mem_hist.1 he).1; omega
theorem nowR_some (h : l.Pairwise Bef) {e : DElem} : nowR l k = some e ↔ e ∈ l ∧ e.key = k ∧ e.gone = 0 := by
 unfold nowR
 constructor
 · intro hf
   have h1 := List.mem_of_find?_eq_some hf
   have h2 := List.find?_some hf
   rw [mem_hist] at h1
   exact ⟨h1.1, h1.2, by simpa using h2⟩
 · rintro ⟨h1, h2, h3⟩
   cases hf : (hist l k).find? (fun e => e.gone == 0) with
   | none =>
    rw [List.find?_eq_none] at hf
    have := hf e (mem_hist.2 ⟨h1, h2⟩)
    simp [h3] at this
   | some a =>
    have g1 := mem_hist.1 (List.mem_of_find?_eq_some hf)
    have g2 := List.find?_some hf
    simp only [beq_iff_eq] at g2
    have la : live a (max a.made e.made) = true := by rw [live_iff]; omega
    have le : live e (max a.made e.made) = true := by rw [live_iff]; omega
    rw [Run.live_one h g1.1 h1 (g1.2.trans h2.symm) la le]
theorem nowR_none : nowR l k = none ↔ ∀ e ∈ l, e.key = k → e.gone ≠ 0 := by
 unfold nowR
 rw [List.find?_eq_none]
 constructor
 · intro h e he hk; have := h e (mem_hist.2 ⟨he, hk⟩); simpa using this
 · intro h e he; have := h e (mem_hist.1 he).1 (mem_hist.1 he).2; simpa using this
theorem hist_now_none (h : nowR l k = none) : clo (hist l k) t = hist l k := clo_gone fun e he => nowR_none.1 h e (mem_hist.1 he).1 (mem_hist.1 he).2
theorem hist_now_some (h : l.Pairwise Bef) {e : DElem} (hn : nowR l k = some e) : ∃ a, hist l k = a ++ [e] ∧ ∀ x ∈ a, x.gone ≠ 0 := by
 obtain ⟨h1, h2, h3⟩ := (nowR_some h).1 hn
 obtain ⟨a, b, hab⟩ := List.append_of_mem (mem_hist.2 ⟨h1, h2⟩)
 have hp := h.sublist (List.filter_sublist (p := fun e => e.key == k))
 have hb := hist_open (show (hist l k).Pairwise Bef from hp) (hist_keys l k) hab h3
 subst hb
 refine ⟨a, hab, fun x hx hg => ?_⟩
 obtain ⟨c, d, rfl⟩ := List.append_of_mem hx
 have hab' : hist l k = c ++ x :: (d ++ [e]) := by rw [hab]; simp
 have := hist_open (show (hist l k).Pairwise Bef from hp) (hist_keys l k) hab' hg
 simp at this
theorem clo_now (h : l.Pairwise Bef) {e : DElem} (hn : nowR l k = some e) : ∃ a, hist l k = a ++ [e] ∧ clo (hist l k) t = a ++ (if e.made = t then [] else [{ e with gone := t }]) := by
 obtain ⟨a, ha, hg⟩ := hist_now_some h hn
 refine ⟨a, ha, ?_⟩
 have h3 := ((nowR_some h).1 hn).2.2
 rw [ha, clo_append, clo_gone hg]
 congr 1
 unfold clo
 by_cases hm : e.made = t
 · rw [if_pos hm, List.filterMap_cons_none (by unfold cl; rw [if_pos h3, if_pos hm])]; rfl
 · rw [if_neg hm, List.filterMap_cons_some (b := { e with gone := t }) (by unfold cl; rw [if_pos h3, if_neg hm])]; rfl
theorem put_length (h : Run l) : (putR l k v t).length = match nowR l k with
 | some e => if e.made = t then l.length else l.length + 1
 | none => l.length + 1 := by
 have h1 := upd_length (k := k) (h := clo (hist l k) t ++ [newE k v t]) h.ord
 unfold putR
 rw [List.length_append, List.length_singleton] at h1
 generalize (upd l k (clo (hist l k) t ++ [newE k v t])).length = n at h1 ⊢
 cases hn : nowR l k with
 | none => rw [hist_now_none hn] at h1; show n = l.length + 1; omega
 | some e =>
  obtain ⟨a, ha, hc⟩ := clo_now (t := t) h.ord hn
  rw [hc, ha] at h1
  dsimp only
  by_cases hm : e.made = t
  · rw [if_pos hm] at *; simp at h1 ⊢; omega
  · rw [if_neg hm] at *; simp at h1 ⊢; omega
def dput (l : List DElem) (k : DKey) (t : Int) : Nat := match nowR l k with
 | some e => if e.made = t then 0 else 1
 | none => 1
theorem put_len (h : Run l) : (putR l k v t).length = l.length + dput l k t := by
 rw [put_length h]
 unfold dput
 cases nowR l k with
 | none => rfl
 | some e => dsimp only; split <;> rfl
theorem cut_len (h : Run l) {e : DElem} (hn : nowR l k = some e) : (cutR l k t).length + (if e.made = t then 1 else 0) = l.length := by
 have h1 := upd_length (k := k) (h := clo (hist l k) t) h.ord
 unfold cutR
 generalize (upd l k (clo (hist l k) t)).length = n at h1 ⊢
 obtain ⟨a, ha, hc⟩ := clo_now (t := t) h.ord hn
 rw [hc, ha] at h1
 by_cases hm : e.made = t
 · rw [if_pos hm] at *; simp at h1 ⊢; omega
 · rw [if_neg hm] at *; simp at h1 ⊢; omega
theorem nowR_other {l m : List DElem} {k : DKey} (h : hist l k = hist m k) : nowR l k = nowR m k := by unfold nowR; rw [h]
theorem now_put_self (h : Run l) (ht : lastL l ≤ t) (hc : chkE (newE k v t) = 0) (hn : (putR l k v t).length ≤ 400) : nowR (putR l k v t) k = some (newE k v t) := by
 have h2 := h.putR ht hc hn
 rw [← nowR_at h2 (Int.le_of_eq (last_put h ht hc))]
 exact at_put_self h ht hc (Int.le_refl _)
theorem now_cut_self (h : Run l) (ht : lastL l ≤ t) (h0 : 1 ≤ t) (h1 : t ≤ 2147483647) : nowR (cutR l k t) k = none := by
 rw [← nowR_at (h.cutR ht h0 h1 k) (last_cut h ht h0 h1)]
 exact at_cut_self h ht h0 h1 (Int.le_refl _)
theorem cut_none (h : Run l) (hn : nowR l k = none) : cutR l k t = l := by
 unfold cutR
 rw [hist_now_none hn, upd_hist k h.ord]
end
end Go.Proofs.YtacjdfhllomccaaGreatDoor
/- Plain Lean: changes, as what a key has ahead and behind. Its conditions: none. -/
namespace Go.Proofs.YtacjdfhllomccaaGreatDoor
set_option linter.unusedVariables false
set_option linter.unusedSimpArgs false
def e0 : ByteArray := ByteArray.mk #[]
def fr (c : DChange) : Option ByteArray := if c.had then some c.was else none
def to (c : DChange) : Option ByteArray := if c.has then some c.is_ else none
def chgOf (k : DKey) (s t : Option ByteArray) : DChange := ⟨k, s.isSome, t.isSome, s.getD e0, t.getD e0⟩
def differs (c : DChange) : Bool := (!(c.had == c.has)) || (!decide (c.was = c.is_))
def FormC (c : DChange) : Prop := (c.had = false → c.was = e0) ∧ (c.has = false → c.is_ = e0)
theorem form_of (k : DKey) (s t : Option ByteArray) : FormC (chgOf k s t) := by
 cases s <;> cases t <;> simp [FormC, chgOf]
theorem of_form {c : DChange} (h : FormC c) : c = chgOf c.key (fr c) (to c) := by
 obtain ⟨k, had, has, was, is_⟩ := c
 obtain ⟨h1, h2⟩ := h
 dsimp only at h1 h2
 cases had <;> cases has <;> simp_all [chgOf, fr, to]
@[simp] theorem fr_of (k : DKey) (s t : Option ByteArray) : fr (chgOf k s t) = s := by cases s <;> simp [fr, chgOf]
@[simp] theorem to_of (k : DKey) (s t : Option ByteArray) : to (chgOf k s t) = t := by cases t <;> simp [to, chgOf]
@[simp] theorem key_of (k : DKey) (s t : Option ByteArray) : (chgOf k s t).key = k := rfl
theorem differs_of (k : DKey) (s t : Option ByteArray) : differs (chgOf k s t) = !decide (s = t) := by
 cases s with
 | none => cases t with
  | none => simp [differs, chgOf]
  | some y => simp [differs, chgOf]
 | some x => cases t with
  | none => simp [differs, chgOf]
  | some y =>
   by_cases h : x = y
   · rw [decide_eq_true (show some x = some y by rw [h])]
     show ((!(true == true)) || (!decide (x = y))) = _
     rw [decide_eq_true h]; rfl
   · rw [decide_eq_false (show ¬ some x = some y from fun e => h (Option.some.inj e))]
     show ((!(true == true)) || (!decide (x = y))) = _
     rw [decide_eq_false h]; rfl
theorem differs_iff {c : DChange} (h : FormC c) : differs c = !decide (fr c = to c) := by
 conv => lhs; rw [of_form h]
 exact differs_of _ _ _
def KeyLt (a b : DChange) : Prop := cmpK a.key b.key < 0
structure GoodC (l : List DChange) : Prop where
 len : l.length ≤ 400
 key : ∀ c ∈ l, chkK c.key = 0
 val : ∀ c ∈ l, c.was.size ≤ 40 ∧ c.is_.size ≤ 40
 form : ∀ c ∈ l, FormC c
 dif : ∀ c ∈ l, differs c = true
 ord : l.Pairwise KeyLt
theorem KeyLt.trans {a b c : DChange} (h : KeyLt a b) (k : KeyLt b c) : KeyLt a c := cmp_cmpK.lt_trans h k
theorem KeyLt.ne {a b : DChange} (h : KeyLt a b) : a.key ≠ b.key := fun e => by
 unfold KeyLt at h; rw [e, cmp_cmpK.refl] at h; omega
def chAt (l : List DChange) (k : DKey) : Option DChange := l.find? fun c => c.key == k
theorem chAt_cons (c : DChange) (l : List DChange) (k : DKey) : chAt (c :: l) k = if c.key = k then some c else chAt l k := by
 unfold chAt
 rw [List.find?_cons]
 by_cases h : c.key = k
 · rw [if_pos h, beq_iff_eq.2 h]
 · rw [if_neg h, beq_eq_false_iff_ne.2 h]
theorem chAt_none {l : List DChange} {k : DKey} : chAt l k = none ↔ ∀ c ∈ l, c.key ≠ k := by
 unfold chAt; rw [List.find?_eq_none]; simp
theorem chAt_some {l : List DChange} (h : l.Pairwise KeyLt) {k : DKey} {c : DChange} : chAt l k = some c ↔ c ∈ l ∧ c.key = k := by
 unfold chAt
 constructor
 · intro hf
   exact ⟨List.mem_of_find?_eq_some hf, by simpa using List.find?_some hf⟩
 · rintro ⟨h1, h2⟩
   cases hf : l.find? (fun c => c.key == k) with
   | none => rw [List.find?_eq_none] at hf; have := hf c h1; simp [h2] at this
   | some d =>
    have g1 := List.mem_of_find?_eq_some hf
    have g2 := List.find?_some hf
    rw [beq_iff_eq] at g2
    rcases pair_cases h g1 h1 with h3 | h3 | h3
    · rw [h3]
    · exact absurd (g2.trans h2.symm) h3.ne
    · exact absurd (h2.trans g2.symm) h3.ne
theorem ch_ext : ∀ {l m : List DChange}, l.Pairwise KeyLt → m.Pairwise KeyLt → (∀ k, chAt l k = chAt m k) → l = m
 | [], [], _, _, _ => rfl
 | [], b :: m, _, _, h => by have := h b.key; rw [chAt_cons, if_pos rfl] at this; cases this
 | a :: l, [], _, _, h => by have := h a.key; rw [chAt_cons, if_pos rfl] at this; cases this
 | a :: l, b :: m, hl, hm, h => by
  have hl' := hl
  have hm' := hm
  rw [List.pairwise_cons] at hl hm
  have hab : a = b := by
   rcases cmp_cmpK.tri a.key b.key with h1 | h1 | h1
   · have h2 := h a.key
     rw [chAt_cons, if_pos rfl] at h2
     have h3 := ((chAt_some hm').1 h2.symm).1
     rcases List.mem_cons.1 h3 with h3 | h3
     · exact h3
     · have := cmp_cmpK.lt_trans h1 (hm.1 a h3); rw [cmp_cmpK.refl] at this; omega
   · have h2 := h a.key
     rw [chAt_cons, if_pos rfl, chAt_cons, if_pos h1.symm] at h2
     exact Option.some.inj h2
   · have h2 := h b.key
     rw [chAt_cons (c := b), if_pos rfl] at h2
     have h3 := ((chAt_some hl').1 h2).1
     rcases List.mem_cons.1 h3 with h3 | h3
     · exact h3.symm
     · have := cmp_cmpK.lt_trans h1 (hl.1 b h3); rw [cmp_cmpK.refl] at this; omega
  subst hab
  congr 1
  refine ch_ext hl.2 hm.2 fun k => ?_
  have h2 := h k
  rw [chAt_cons, chAt_cons] at h2
  by_cases hk : a.key = k
  · have e1 : chAt l k = none := chAt_none.2 fun c hc e => (hl.1 c hc).ne (hk.trans e.symm)
    have e2 : chAt m k = none := chAt_none.2 fun c hc e => (hm.1 c hc).ne (hk.trans e.symm)
    rw [e1, e2]
  · rw [if_neg hk, if_neg hk] at h2
    exact h2
def dif (k : DKey) (s t : Option ByteArray) : Option DChange := if s = t then none else some (chgOf k s t)
def vAt (l : List DElem) (k : DKey) (t : Int) : Option ByteArray := (atR l k t).map (·.val)
structure BetwSpec (l : List DElem) (a b : Int) (cs : List DChange) : Prop where
 ord : cs.Pairwise KeyLt
 at_ : ∀ k, chAt cs k = dif k (vAt l k a) (vAt l k b)
 len : cs.length ≤ l.length
theorem BetwSpec.one {l : List DElem} {a b : Int} {c d : List DChange} (h : BetwSpec l a b c) (h' : BetwSpec l a b d) : c = d :=
 ch_ext h.ord h'.ord fun k => by rw [h.at_, h'.at_]
theorem vAt_some {l : List DElem} (h : l.Pairwise Bef) {k : DKey} {t : Int} {v : ByteArray} (hv : vAt l k t = some v) : ∃ e ∈ l, e.key = k ∧ e.val = v := by
 unfold vAt at hv
 rw [Option.map_eq_some_iff] at hv
 obtain ⟨e, h1, h2⟩ := hv
 obtain ⟨h3, h4, _⟩ := (atR_some h).1 h1
 exact ⟨e, h3, h4, h2⟩
def inv (c : DChange) : DChange := ⟨c.key, c.has, c.had, c.is_, c.was⟩
def backC (l : List DChange) : List DChange := l.map inv
theorem back_ord {l : List DChange} (h : l.Pairwise KeyLt) : (backC l).Pairwise KeyLt := by
 unfold backC; rw [List.pairwise_map]; exact h
theorem GoodC.back {l : List DChange} (h : GoodC l) : GoodC (backC l) := by
 refine ⟨by unfold backC; rw [List.length_map]; exact h.len, fun c hc => ?_, fun c hc => ?_, fun c hc => ?_, fun c hc => ?_, back_ord h.ord⟩ <;> (obtain ⟨d, hd, rfl⟩ := List.mem_map.1 hc)
 · exact h.key d hd
 · exact ⟨(h.val d hd).2, (h.val d hd).1⟩
 · exact ⟨(h.form d hd).2, (h.form d hd).1⟩
 · have := h.dif d hd
   unfold differs at this ⊢
   rw [Bool.or_eq_true, Bool.not_eq_true', Bool.not_eq_true', beq_eq_false_iff_ne, decide_eq_false_iff_not] at this ⊢
   exact this.imp (fun h e => h e.symm) (fun h e => h e.symm)
def meets (x y : Option DChange) : Prop := match x, y with
 | some c, some d => to c = fr d
 | _, _ => True
def comp (x y : Option DChange) : Option DChange := match x, y with
 | some c, some d => dif c.key (fr c) (to d)
 | some c, none => some c
 | none, some d => some d
 | none, none => none
structure ThenSpec (a b r : List DChange) : Prop where
 ord : r.Pairwise KeyLt
 meet : ∀ k, meets (chAt a k) (chAt b k)
 at_ : ∀ k, chAt r k = comp (chAt a k) (chAt b k)
theorem ThenSpec.one {a b r q : List DChange} (h : ThenSpec a b r) (h' : ThenSpec a b q) : r = q := ch_ext h.ord h'.ord fun k => by rw [h.at_, h'.at_]
theorem chAt_gt {x : DChange} {l : List DChange} (h : ∀ c ∈ l, KeyLt x c) : chAt l x.key = none := chAt_none.2 fun c hc e => (h c hc).ne e.symm
section
variable {f : List DChange × List DChange × List DChange → Option ((List DChange × List DChange × List DChange) ⊕ (List DChange ⊕ (List DChange × Int)))} {M : Nat}
end
def lastV (t : Int) (h : List DElem) (s : Option ByteArray) : Option ByteArray := h.foldl (fun s x => if live x t then some x.val else s) s
theorem lastV_hist {k : DKey} {t : Int} : ∀ {h : List DElem}, h.Pairwise Bef → (∀ x ∈ h, x.key = k) → ∀ s, lastV t h s = match h.find? (fun x => live x t) with | some x => some x.val | none => s
 | [], _, _, _ => rfl
 | x :: h, hp, hk, s => by
  have hp' := List.pairwise_cons.1 hp
  show lastV t h (if live x t then some x.val else s) = _
  rw [lastV_hist hp'.2 (fun y hy => hk y (by simp [hy])), List.find?_cons]
  cases hx : live x t with
  | false => rfl
  | true =>
   have : h.find? (fun y => live y t) = none := by
    rw [List.find?_eq_none]
    intro y hy hl
    have := Run.live_one hp (by simp) (show y ∈ x :: h by simp [hy]) ((hk x (by simp)).trans (hk y (by simp [hy])).symm) hx hl
    subst this
    exact (hp'.1 x hy).irrefl
   rw [this]; rfl
theorem lastV_vAt {l : List DElem} (h : l.Pairwise Bef) (k : DKey) (t : Int) : lastV t (hist l k) none = vAt l k t := by
 rw [lastV_hist (show (hist l k).Pairwise Bef from h.sublist List.filter_sublist) (hist_keys l k)]
 unfold vAt
 rw [atR_hist]
 cases (hist l k).find? (fun x => live x t) <;> rfl
section
variable {f : List DChange × Int → Option ((List DChange × Int) ⊕ List DChange)} {l : List DElem} {a b : Int}
end
end Go.Proofs.YtacjdfhllomccaaGreatDoor
/- Plain Lean: changes that are done. Its conditions: none. -/
namespace Go.Proofs.YtacjdfhllomccaaGreatDoor
set_option linter.unusedVariables false
set_option linter.unusedSimpArgs false
def doH (x : Option DChange) (t : Int) (h : List DElem) : List DElem := match x with
 | none => h
 | some c => if c.has then clo h t ++ [newE c.key c.is_ t] else clo h t
structure DoSpec (l : List DElem) (cs : List DChange) (t : Int) (m : List DElem) : Prop where
 run : Run m
 last : lastL m ≤ t
 at_ : ∀ k, hist m k = doH (chAt cs k) t (hist l k)
def nowV (l : List DElem) (k : DKey) : Option ByteArray := (nowR l k).map (·.val)
theorem nowV_at {l : List DElem} (h : Run l) {u : Int} (hu : lastL l ≤ u) (k : DKey) : vAt l k u = nowV l k := by
 unfold vAt nowV; rw [nowR_at h hu]
theorem nowV_hist {l m : List DElem} {k : DKey} (h : hist l k = hist m k) : nowV l k = nowV m k := by unfold nowV; rw [nowR_other h]
structure DoPre (m : List DElem) (cs : List DChange) (t : Int) : Prop where
 run : Run m
 last : lastL m ≤ t
 lo : 1 ≤ t
 hi : t ≤ 2147483647
 had : ∀ c ∈ cs, nowV m c.key = fr c
variable {ρ : Type}
theorem do_put {m : List DElem} {c : DChange} {cs : List DChange} {t : Int} (g : (c :: cs).Pairwise KeyLt) (h : DoPre m (c :: cs) t) (hk : chkK c.key = 0) (hv : c.is_.size ≤ 40) (hlen : (putR m c.key c.is_ t).length ≤ 400) :
 DoPre (putR m c.key c.is_ t) cs t := by
 have hc := chkE_new hk h.lo h.hi hv
 refine ⟨h.run.putR h.last hc hlen, Int.le_of_eq (last_put h.run h.last hc), h.lo, h.hi, fun d hd => ?_⟩
 rw [List.pairwise_cons] at g
 have hne := (g.1 d hd).ne
 rw [nowV_hist (hist_put_other h.run (fun e => hne e.symm))]
 exact h.had d (by simp [hd])
theorem do_cut {m : List DElem} {c : DChange} {cs : List DChange} {t : Int} (g : (c :: cs).Pairwise KeyLt) (h : DoPre m (c :: cs) t) : DoPre (cutR m c.key t) cs t := by
 refine ⟨h.run.cutR h.last h.lo h.hi _, last_cut h.run h.last h.lo h.hi, h.lo, h.hi, fun d hd => ?_⟩
 rw [List.pairwise_cons] at g
 have hne := (g.1 d hd).ne
 rw [nowV_hist (hist_cut_other h.run (fun e => hne e.symm))]
 exact h.had d (by simp [hd])
theorem DoSpec.nil {m : List DElem} {t : Int} (h : DoPre m [] t) : DoSpec m [] t m := ⟨h.run, h.last, fun k => rfl⟩
theorem DoSpec.cons {l m n : List DElem} {c : DChange} {cs : List DChange} {t : Int} (g : (c :: cs).Pairwise KeyLt) (h : DoSpec m cs t n) (hs : hist m c.key = doH (some c) t (hist l c.key)) (ho : ∀ k, k ≠ c.key → hist m k = hist l k) : DoSpec l (c :: cs) t n := by
 refine ⟨h.run, h.last, fun k => ?_⟩
 rw [h.at_, chAt_cons]
 rw [List.pairwise_cons] at g
 by_cases hk : c.key = k
 · subst hk
   rw [if_pos rfl, chAt_gt g.1, ← hs]; rfl
 · rw [if_neg hk, ho k (fun e => hk e.symm)]
theorem do_had {c : DChange} (hf : FormC c) (hd : differs c = true) (hh : c.has = false) {l : List DElem} (h : nowV l c.key = fr c) : ∃ e, nowR l c.key = some e := by
 rw [differs_iff hf] at hd
 have h1 : to c = none := by unfold to; rw [hh]; rfl
 have h2 : fr c ≠ none := fun e => by rw [e, h1] at hd; simp at hd
 cases hn : nowR l c.key with
 | none => unfold nowV at h; rw [hn] at h; exact absurd h.symm h2
 | some e => exact ⟨e, rfl⟩
theorem DoSpec.late {l m : List DElem} {cs : List DChange} {t : Int} (hl : Run l) (h : DoSpec l cs t m) (ho : cs.Pairwise KeyLt) (ht : lastL l ≤ t) (h0 : 1 ≤ t) (h1 : t ≤ 2147483647) {u : Int} (hu : t ≤ u) (k : DKey) :
 vAt m k u = match chAt cs k with | none => nowV l k | some c => to c := by
 have hm := h.at_ k
 unfold vAt
 rw [atR_hist, hm]
 cases hc : chAt cs k with
 | none =>
  show ((hist l k).find? fun e => live e u).map _ = _
  rw [← atR_hist]
  exact nowV_at hl (by omega) k
 | some c =>
  have hk := ((chAt_some ho).1 hc).2
  obtain ⟨c1, c2, c3⟩ := hl.clo ht h0 h1 k
  have hno := find_clo_late (hist l k) (fun e he => (c3 e he).1) h0 hu
  unfold doH
  dsimp only
  by_cases hh : c.has = true
  · rw [if_pos hh, List.find?_append, hno, Option.none_or, List.find?_cons_of_pos (by rw [live_iff]; unfold newE; dsimp only; omega)]
    unfold to; rw [hh]; rfl
  · rw [if_neg hh, hno]
    unfold to; rw [show c.has = false by simpa using hh]; rfl
theorem DoSpec.past {l m : List DElem} {cs : List DChange} {t : Int} (h : DoSpec l cs t m) {u : Int} (hu : u < t) (k : DKey) : vAt m k u = vAt l k u := by
 have hm := h.at_ k
 unfold vAt
 rw [atR_hist, atR_hist, hm]
 have hval : ∀ o : Option DElem, (o.map (endE t)).map (·.val) = o.map (·.val) := fun o => by
  cases o with
  | none => rfl
  | some e => show some (endE t e).val = some e.val; unfold endE; split <;> rfl
 cases chAt cs k with
 | none => rfl
 | some c =>
  unfold doH
  dsimp only
  split
  · rw [List.find?_append, find_clo_past _ hu]
    cases (hist l k).find? fun e => live e u with
    | some e => rw [Option.map_some, Option.some_or]; exact hval (some e)
    | none =>
     rw [Option.map_none, Option.none_or, List.find?_cons_of_neg (by rw [live_iff]; unfold newE; dsimp only; omega)]; rfl
  · rw [find_clo_past _ hu, hval]
end Go.Proofs.YtacjdfhllomccaaGreatDoor
/- Plain Lean: what the functions on runs compute. Its conditions: none. -/
namespace Go.Proofs.YtacjdfhllomccaaGreatDoor
set_option linter.unusedVariables false
set_option linter.unusedSimpArgs false
variable {F : Nat} [Big F]
theorem elem_Spot_eq (e : DElem) : elem_Spot e = some (spotE e) := rfl
def befB (p e : DElem) : Bool := decide (cmpS (spotE p) (spotE e) < 0) && (p.key != e.key || (p.gone != 0 && decide (p.gone ≤ e.made)))
theorem befB_iff {p e : DElem} : befB p e = true ↔ Bef p e := by
 unfold befB Bef
 simp only [Bool.and_eq_true, Bool.or_eq_true, decide_eq_true_eq, bne_iff_ne, ne_eq]
 constructor
 · rintro ⟨h1, h2⟩; exact ⟨h1, fun hk => h2.resolve_left fun h => h hk⟩
 · rintro ⟨h1, h2⟩; exact ⟨h1, (Decidable.em (p.key = e.key)).elim (fun h => .inr (h2 h)) .inl⟩
def badAt (l : List DElem) (k : Nat) (e : DElem) : Option Int :=
 if chkE e ≠ 0 then some (chkE e) else if k = 0 then none else
  match l[k - 1]? with
  | some p => if befB p e then none else some 3
  | none => none
theorem badAt_zero {l : List DElem} {e : DElem} (h : chkE e = 0) : badAt l 0 e = none := by unfold badAt; rw [if_neg (by simpa using h), if_pos rfl]
theorem badAt_succ {l : List DElem} {j : Nat} {p e : DElem} (h : chkE e = 0) (hj : l[j]? = some p) : badAt l (j + 1) e = if befB p e then none else some 3 := by
 unfold badAt; rw [if_neg (by simpa using h), if_neg (by omega), Nat.add_sub_cancel, hj]
theorem badAt_bad {l : List DElem} {k : Nat} {e : DElem} (h : chkE e ≠ 0) : badAt l k e = some (chkE e) := by unfold badAt; rw [if_pos h]
def chkR (l : List DElem) : Int := if 400 < l.length then 2 else ((l.zipIdx).findSome? fun p => badAt l p.2 p.1).getD 0
theorem findSome_map {α β γ : Type} (g : β → γ) (w : α → Option β) : ∀ l : List α, (l.findSome? fun a => (w a).map g) = (l.findSome? w).map g
 | [] => rfl
 | a :: l => by
  rw [List.findSome?_cons, List.findSome?_cons]
  cases w a with
  | some b => rfl
  | none => exact findSome_map g w l
theorem run_Check_eq (l : List DElem) : run_Check F l = some (chkR l) := by
 unfold run_Check chkR
 by_cases hl : 400 < l.length
 · rw [if_pos hl, decide_eq_true (by omega), cond_true]
 · rw [if_neg hl, decide_eq_false (by omega), cond_false]
   rw [loop_find l (fun k e => (badAt l k e).map Sum.inr) (Sum.inl ()) (by omega) rfl (fun k e hk hb => ?_) (by simp)]
   · rw [findSome_map]
     cases l.zipIdx.findSome? fun p => badAt l p.2 p.1 <;> rfl
   · have hkl := (List.getElem?_eq_some_iff.1 hk).1
     rw [decide_eq_true (by omega), cond_true, idx_nat', hk, Option.bind_some, elem_Check_eq, Option.bind_some]
     by_cases hc : chkE e = 0
     · rw [bne0_false hc, cond_false]
       cases k with
       | zero => rw [badAt_zero hc]; simp [w64]
       | succ j =>
        obtain ⟨p, hj⟩ : ∃ p, l[j]? = some p := ⟨_, List.getElem?_eq_getElem (show j < l.length by omega)⟩
        rw [badAt_succ hc hj, show (((j + 1 : Nat) : Int) == 0) = false by rw [beq_eq_false_iff_ne]; omega, cond_false, w64 (by omega) (by omega), show (((j + 1 : Nat) : Int) - 1) = (j : Int) by omega, idx_nat', hj, w64 (by omega) (by omega)]
        simp only [Option.bind_some, elem_Spot_eq, key_CmpSpot_eq]
        unfold befB
        by_cases h1 : cmpS (spotE p) (spotE e) < 0
        · rw [decide_eq_false (by omega), cond_false, decide_eq_true h1, Bool.true_and]
          by_cases h2 : p.key = e.key
          · rw [show (p.key == e.key) = true by simpa using h2, cond_true, show (p.key != e.key) = false by simpa using h2, Bool.false_or]
            by_cases h3 : p.gone = 0
            · rw [show (p.gone == 0) = true by simpa using h3, cond_true, show (p.gone != 0) = false by simpa using h3]; rfl
            · rw [show (p.gone == 0) = false by simpa using h3, cond_false, show (p.gone != 0) = true by simpa using h3, Bool.true_and]
              by_cases h4 : p.gone ≤ e.made
              · rw [decide_eq_false (by omega), decide_eq_true h4]; rfl
              · rw [decide_eq_true (by omega), decide_eq_false h4]; rfl
          · rw [show (p.key == e.key) = false by simpa using h2, cond_false, show (p.key != e.key) = true by simpa using h2]; rfl
        · rw [decide_eq_true (by omega), cond_true, decide_eq_false h1]; rfl
     · rw [bne0_true hc, cond_true, badAt_bad hc]; rfl
theorem chkR_zero {l : List DElem} : chkR l = 0 ↔ Run l := by
 unfold chkR
 by_cases hl : 400 < l.length
 · rw [if_pos hl]
   constructor
   · intro h; cases h
   · intro h; have := h.len; omega
 · rw [if_neg hl]
   cases hf : l.zipIdx.findSome? fun p => badAt l p.2 p.1 with
   | some c =>
    obtain ⟨k, e, hk, hb⟩ := find_some hf
    rw [Option.getD_some]
    constructor
    · intro hc
      subst hc
      unfold badAt at hb
      split at hb
      · rename_i h; exact absurd (Option.some.inj hb) h
      · split at hb
        · cases hb
        · split at hb
          · split at hb
            · cases hb
            · cases hb
          · cases hb
    · intro h
      have he := h.ok e (List.mem_of_getElem? hk)
      cases k with
      | zero => rw [badAt_zero he] at hb; cases hb
      | succ j =>
       have hkl := (List.getElem?_eq_some_iff.1 hk).1
       have hj : l[j]? = some l[j] := List.getElem?_eq_getElem (by omega)
       have hp := List.pairwise_iff_getElem.1 h.ord j (j + 1) (by omega) hkl (by omega)
       rw [(List.getElem?_eq_some_iff.1 hk).2] at hp
       rw [badAt_succ he hj, if_pos (befB_iff.2 hp)] at hb
       cases hb
   | none =>
    rw [find_none] at hf
    refine ⟨fun _ => ?_, fun _ => rfl⟩
    have hok : ∀ e ∈ l, chkE e = 0 := fun e he => by
     obtain ⟨k, hk, rfl⟩ := List.getElem_of_mem he
     have h1 := hf k _ (List.getElem?_eq_getElem hk)
     by_cases hc : chkE l[k] = 0
     · exact hc
     · rw [badAt_bad hc] at h1; cases h1
    refine ⟨by omega, hok, ?_⟩
    rw [List.pairwise_iff_getElem]
    have step : ∀ j (hj : j + 1 < l.length), Bef l[j] l[j + 1] := fun j hj => by
     have h1 := hf (j + 1) _ (List.getElem?_eq_getElem hj)
     rw [badAt_succ (hok _ (List.getElem_mem hj)) (List.getElem?_eq_getElem (show j < l.length by omega))] at h1
     split at h1
     · rename_i h; exact befB_iff.1 h
     · cases h1
    have far : ∀ d i (hd : i + d + 1 < l.length), Bef (l[i]'(by omega)) l[i + d + 1] := by
     intro d
     induction d with
     | zero => intro i hd; exact step i hd
     | succ d ih =>
      intro i hd
      have h1 := ih i (by omega)
      have h2 := step (i + d + 1) (by omega)
      exact h1.trans (hok _ (List.getElem_mem _)) h2
    intro i j hi hj hij
    have := far (j - i - 1) i (by omega)
    have e : i + (j - i - 1) + 1 = j := by omega
    simp only [e] at this
    exact this
theorem run_last_eq (l : List DElem) (hl : l.length ≤ 9223372036854775807) : run_last F l = some (lastL l) := by
 unfold run_last lastL
 rw [loop_fold l (fun t e => if t < lastE e then lastE e else t) 0 (r := l.foldl (fun t e => if t < lastE e then lastE e else t) 0) hl rfl (fun k e hk => ?_) (by simp), Option.bind_some]
 have hkl := (List.getElem?_eq_some_iff.1 hk).1
 dsimp only
 rw [decide_eq_true (by omega), cond_true, idx_nat', hk, Option.bind_some, elem_Last_eq, Option.bind_some, w64 (by omega) (by omega)]
theorem run_Last_eq (l : List DElem) : run_Last F l = some (if chkR l = 0 then lastL l else 0, chkR l) := by
 unfold run_Last
 rw [run_Check_eq, Option.bind_some]
 by_cases h : chkR l = 0
 · have := (chkR_zero.1 h).len
   rw [bne0_false h, cond_false, run_last_eq l (by omega), h]; rfl
 · rw [bne0_true h, cond_true, if_neg h]
def zeroE : DElem := ⟨⟨0, 0, 0⟩, 0, 0, ByteArray.mk #[]⟩
def atE (l : List DElem) (k : DKey) (t : Int) : Int := if chkR l ≠ 0 then chkR l else if chkK k ≠ 0 then chkK k else if (atR l k t).isNone then 4 else 0
def atV (l : List DElem) (k : DKey) (t : Int) : DElem := if chkR l = 0 ∧ chkK k = 0 then (atR l k t).getD zeroE else zeroE
theorem run_At_eq (l : List DElem) (k : DKey) (t : Int) : run_At F l k t = some (atV l k t, atE l k t) := by
 unfold run_At atE atV
 rw [run_Check_eq, Option.bind_some, key_Check_eq, Option.bind_some]
 by_cases h : chkR l = 0
 · rw [bne0_false h, cond_false]
   by_cases h2 : chkK k = 0
   · have hlen := (chkR_zero.1 h).len
     rw [bne0_false h2, cond_false, if_pos ⟨h, h2⟩, if_neg (by simpa using h), if_neg (by simpa using h2)]
     rw [loop_first l (fun e => if (e.key == k && live e t) = true then some (Sum.inr (e, 0)) else none) (Sum.inl ()) (by omega) rfl (fun j e hj => ?_) (by simp)]
     · unfold atR
       have : ∀ l : List DElem, l.findSome? (fun e => if (e.key == k && live e t) = true then some (Sum.inr (e, 0) : Unit ⊕ (DElem × Int)) else none) = (l.find? fun e => e.key == k && live e t).map fun e => Sum.inr (e, 0) := by
        intro l
        induction l with
        | nil => rfl
        | cons a l ih =>
         rw [List.findSome?_cons, List.find?_cons]
         cases (a.key == k && live a t)
         · exact ih
         · rfl
       rw [this]
       cases l.find? fun e => e.key == k && live e t <;> rfl
     · have hkl := (List.getElem?_eq_some_iff.1 hj).1
       rw [decide_eq_true (by omega), cond_true, idx_nat', hj, Option.bind_some]
       by_cases hk : e.key = k
       · cases hv : live e t <;> simp [hk, elem_Live_eq, hv, w64 (n := (j : Int) + 1) (by omega) (by omega)]
       · rw [show (e.key == k) = false by simpa using hk, cond_false]
         simp [w64 (n := (j : Int) + 1) (by omega) (by omega)]
   · rw [bne0_true h2, cond_true, if_neg (fun hh => h2 hh.2), if_neg (by simpa using h), if_pos h2]; rfl
 · rw [bne0_true h, cond_true, if_neg (fun hh => h hh.1), if_pos h]; rfl
section
variable {α : Type} {l a b : List α} {x : α}
theorem get_mid (h : l = a ++ x :: b) : l[a.length]? = some x := by rw [h, List.getElem?_append_right (Nat.le_refl _)]; simp
theorem set_mid (h : l = a ++ x :: b) (y : α) : l.set a.length y = a ++ y :: b := by rw [h, List.set_append_right _ _ (Nat.le_refl _)]; simp
theorem take_mid (h : l = a ++ x :: b) : l.take a.length = a := by rw [h]; exact List.take_left
theorem drop_mid (h : l = a ++ x :: b) : l.drop (a.length + 1) = b := by rw [h, List.drop_append]; simp
end
theorem search_mid {i j : Nat} (hj : j ≤ 4611686018427387903) (hi : i ≤ j) : IntKind.i64.wrap (shr .u64 (IntKind.u64.wrap (IntKind.i64.wrap ((i : Int) + (j : Int)))) 1) = (((i + j) / 2 : Nat) : Int) := by
 have e0 : IntKind.i64.wrap ((i : Int) + (j : Int)) = (i : Int) + (j : Int) := w64 (by omega) (by omega)
 have e1 : IntKind.u64.wrap ((i : Int) + (j : Int)) = (i : Int) + (j : Int) := by
  simp [IntKind.wrap, IntKind.bits, IntKind.signed]; omega
 have e2 : shr .u64 ((i : Int) + (j : Int)) 1 = (((i + j) / 2 : Nat) : Int) := by
  unfold shr
  have e3 : min 1 (IntKind.bits .u64) = 1 := by decide
  rw [e3, Int.fdiv_eq_ediv_of_nonneg _ (by decide)]
  omega
 rw [e0, e1, e2, w64 (by omega) (by omega)]
theorem loop_search {f : Int × Int → Option ((Int × Int) ⊕ Int)} (p : Nat → Bool) (n c : Nat) (hn : n ≤ 4611686018427387903) (hc : c ≤ n) (hlo : ∀ j, j < c → p j = false) (hhi : ∀ j, c ≤ j → j < n → p j = true)
 (hs : ∀ i j : Nat, i < j → j ≤ n → f ((i : Int), (j : Int)) = some (.inl (bif p ((i + j) / 2) then ((i : Int), (((i + j) / 2 : Nat) : Int)) else ((((i + j) / 2 : Nat) : Int) + 1, (j : Int))))) (he : ∀ i : Nat, f ((i : Int), (i : Int)) = some (.inr (i : Int))) :
 iter f F (0, (n : Int)) = some (c : Int) := by
 have key : ∀ (d i j N : Nat), j - i ≤ d → i ≤ c → c ≤ j → j ≤ n → d < N → iter f N ((i : Int), (j : Int)) = some (c : Int) := by
  intro d
  induction d with
  | zero =>
   intro i j N hd h1 h2 h3 hN
   obtain ⟨N, rfl⟩ : ∃ M, N = M + 1 := ⟨N - 1, by omega⟩
   obtain rfl : i = c := by omega
   obtain rfl : j = i := by omega
   rw [iter, he]
  | succ d ih =>
   intro i j N hd h1 h2 h3 hN
   obtain ⟨N, rfl⟩ : ∃ M, N = M + 1 := ⟨N - 1, by omega⟩
   rcases Nat.lt_or_ge i j with hij | hij
   · rw [iter, hs i j hij h3]
     dsimp only
     by_cases hp : p ((i + j) / 2) = true
     · rw [hp, cond_true]
       refine ih i ((i + j) / 2) N (by omega) h1 ?_ (by omega) (by omega)
       rcases Nat.lt_or_ge ((i + j) / 2) c with h4 | h4
       · rw [hlo _ h4] at hp; cases hp
       · exact h4
     · rw [show p ((i + j) / 2) = false by simpa using hp, cond_false]
       refine ih ((i + j) / 2 + 1) j N (by omega) ?_ h2 h3 (by omega)
       rcases Nat.lt_or_ge ((i + j) / 2) c with h4 | h4
       · exact h4
       · exact absurd (hhi _ h4 (by omega)) hp
   · obtain rfl : i = c := by omega
     obtain rfl : j = i := by omega
     rw [iter, he]
 exact key n 0 n F (by omega) (by omega) hc (Nat.le_refl _) (lt_big (by omega))
theorem run_place_eq (A B : List DElem) (s : DSpot) (hn : (A ++ B).length ≤ 1000000) (hA : ∀ e ∈ A, cmpS (spotE e) s < 0) (hB : ∀ e ∈ B, 0 ≤ cmpS (spotE e) s) : run_place F (A ++ B) s = some (A.length : Int) := by
 unfold run_place
 have hlen : (A ++ B).length = A.length + B.length := List.length_append
 rw [loop_search (fun j => match (A ++ B)[j]? with | some e => decide (0 ≤ cmpS (spotE e) s) | none => false) (A ++ B).length A.length (by omega) (by omega) (fun j hj => ?_) (fun j h1 h2 => ?_) (fun i j hij hj => ?_) (fun i => by simp), Option.bind_some, Option.bind_some]
 · rw [List.getElem?_append_left hj, List.getElem?_eq_getElem hj]
   simpa using hA _ (List.getElem_mem hj)
 · rw [List.getElem?_append_right h1, List.getElem?_eq_getElem (by omega)]
   simpa using hB _ (List.getElem_mem _)
 · have hm : (i + j) / 2 < (A ++ B).length := by omega
   dsimp only
   rw [decide_eq_true (by omega), cond_true, search_mid (by omega) (by omega), idx_nat', List.getElem?_eq_getElem hm, Option.bind_some, elem_Spot_eq, Option.bind_some, key_CmpSpot_eq, Option.bind_some, Option.bind_some]
   dsimp only
   by_cases hp : 0 ≤ cmpS (spotE (A ++ B)[(i + j) / 2]) s
   · rw [decide_eq_true hp]; rfl
   · rw [decide_eq_false hp, w64 (by omega) (by omega)]; rfl
theorem Run.made {l : List DElem} (h : Run l) {e : DElem} (he : e ∈ l) : 1 ≤ e.made ∧ e.made ≤ 2147483647 := by
 obtain ⟨_, h1, h2, _⟩ := chkE_ok (h.ok e he); exact ⟨h1, h2⟩
theorem hi_spot {l : List DElem} {k : DKey} {t : Int} : ∀ e ∈ hi l k, 0 ≤ cmpS (spotE e) ⟨k, t⟩ := fun e he => by
 have h1 := (mem_hi.1 he).2
 have h2 : cmpS ⟨k, t⟩ (spotE e) < 0 := cmpS_lt.2 (.inl (cmp_cmpK.pos.1 h1))
 have := cmp_cmpS.neg (spotE e) ⟨k, t⟩
 omega
theorem lo_spot {l : List DElem} {k : DKey} {t : Int} : ∀ e ∈ lo l k, cmpS (spotE e) ⟨k, t⟩ < 0 := fun e he => cmpS_lt.2 (.inl (mem_lo.1 he).2)
theorem run_now_place {l : List DElem} (h : Run l) (k : DKey) : run_place F l ⟨k, 2147483648⟩ = some ((lo l k ++ hist l k).length : Int) := by
 have hs : l = (lo l k ++ hist l k) ++ hi l k := by rw [List.append_assoc]; exact split3 k h.ord
 conv => lhs; rw [hs]
 refine run_place_eq _ _ _ (by rw [← hs]; have := h.len; omega) (fun e he => ?_) hi_spot
 rcases List.mem_append.1 he with he | he
 · exact lo_spot e he
 · obtain ⟨h1, h2⟩ := mem_hist.1 he
   have := h.made h1
   exact cmpS_lt.2 (.inr ⟨h2, by show e.made < 2147483648; omega⟩)
theorem run_now_none {l : List DElem} (h : Run l) {k : DKey} (hn : nowR l k = none) : run_now F l k = some (-1) := by
 unfold run_now
 rw [run_now_place h k, Option.bind_some]
 have hs : l = (lo l k ++ hist l k) ++ hi l k := by rw [List.append_assoc]; exact split3 k h.ord
 have hlen : (lo l k ++ hist l k).length ≤ l.length := by have := congrArg List.length hs; rw [List.length_append] at this; omega
 have hl := h.len
 rw [w64 (by omega) (by omega)]
 by_cases h0 : (lo l k ++ hist l k).length = 0
 · rw [h0]; rfl
 · obtain ⟨n, hn'⟩ : ∃ n, (lo l k ++ hist l k).length = n + 1 := ⟨(lo l k ++ hist l k).length - 1, by omega⟩
   rw [hn', decide_eq_false (by omega), cond_false, show (((n + 1 : Nat) : Int) - 1) = (n : Int) by omega, idx_nat', List.getElem?_eq_getElem (show n < l.length by omega)]
   have he : l[n]'(by omega) = (lo l k ++ hist l k)[n]'(by omega) := by
    have e1 : l[n]? = ((lo l k ++ hist l k) ++ hi l k)[n]? := by rw [← hs]
    rw [List.getElem?_append_left (by omega), List.getElem?_eq_getElem (show n < l.length by omega), List.getElem?_eq_getElem (by omega)] at e1
    exact Option.some.inj e1
   simp only [Option.bind_some]
   have hm : l[n]'(by omega) ∈ l := List.getElem_mem _
   by_cases hk : (l[n]'(by omega)).key = k
   · have hg := nowR_none.1 hn _ hm hk
     rw [beq_iff_eq.2 hk, Bool.not_true, cond_false, bne0_true hg, Option.bind_some, cond_true]
   · rw [beq_eq_false_iff_ne.2 hk, Bool.not_false, cond_true, Option.bind_some, cond_true]
theorem run_now_some {l : List DElem} (h : Run l) {k : DKey} {e : DElem} (hn : nowR l k = some e) : ∃ a, hist l k = a ++ [e] ∧ l = (lo l k ++ a) ++ e :: hi l k ∧ run_now F l k = some ((lo l k ++ a).length : Int) := by
 obtain ⟨a, ha, _⟩ := hist_now_some h.ord hn
 obtain ⟨_, hk, hg⟩ := (nowR_some h.ord).1 hn
 have hs : l = (lo l k ++ a) ++ e :: hi l k := by
  conv => lhs; rw [split3 k h.ord, ha]
  simp
 refine ⟨a, ha, hs, ?_⟩
 unfold run_now
 rw [run_now_place h k, Option.bind_some, ha]
 have hl := h.len
 have hlen := congrArg List.length hs
 simp only [List.length_append, List.length_cons, List.length_nil] at hlen ⊢
 rw [w64 (by omega) (by omega), show (((lo l k).length + (a.length + (0 + 1)) : Nat) : Int) - 1 = (((lo l k ++ a).length : Nat) : Int) by simp; omega]
 rw [decide_eq_false (by omega), cond_false, idx_nat']
 have he : l[(lo l k ++ a).length]? = some e := get_mid hs
 rw [he]
 simp [hk, hg]
def putE (l : List DElem) (k : DKey) (v : ByteArray) (t : Int) : Int :=
 if chkR l ≠ 0 then chkR l else if chkE (newE k v t) ≠ 0 then chkE (newE k v t) else if t < lastL l then 9 else if 400 < (putR l k v t).length then 8 else 0
theorem putE_zero {l : List DElem} {k : DKey} {v : ByteArray} {t : Int} : putE l k v t = 0 ↔ Run l ∧ chkE (newE k v t) = 0 ∧ lastL l ≤ t ∧ (putR l k v t).length ≤ 400 := by
 unfold putE
 rw [← chkR_zero]
 split
 · simp_all
 · split
   · simp_all
   · split
     · constructor
       · intro h; cases h
       · omega
     · split
       · constructor
         · intro h; cases h
         · omega
       · simp_all
theorem insert_shift {α : Type} (a b : List α) (x z : α) : (over ((a ++ b) ++ [z]) (a.length + 1) ((((a ++ b) ++ [z]).drop a.length).take (((a ++ b) ++ [z]).drop (a.length + 1)).length)).set a.length x = a ++ x :: b := by
 have e1 : ((a ++ b) ++ [z]).drop a.length = b ++ [z] := by rw [List.append_assoc, List.drop_left]
 have e2 : (((a ++ b) ++ [z]).drop (a.length + 1)).length = b.length := by simp
 rw [e1, e2, List.take_left]
 have e3 : ∃ y, over ((a ++ b) ++ [z]) (a.length + 1) b = a ++ y :: b := by
  unfold over
  have e4 : ((a ++ b) ++ [z]).drop (a.length + 1 + b.length) = [] := List.drop_eq_nil_of_le (by simp; omega)
  rw [e4, List.append_nil]
  cases b with
  | nil => exact ⟨z, by rw [List.append_nil, List.append_nil, List.take_of_length_le (by simp)]⟩
  | cons y b =>
   refine ⟨y, ?_⟩
   rw [List.append_assoc, List.cons_append, List.take_append, List.take_of_length_le (by omega), show a.length + 1 - a.length = 1 by omega]
   simp
 obtain ⟨y, hy⟩ := e3
 rw [hy, set_mid rfl]
theorem put_in {F : Nat} [Big F] (A B : List DElem) (s : DSpot) (x z : DElem) (hn : (A ++ B).length < 400) (hA : ∀ e ∈ A, cmpS (spotE e) s < 0) (hB : ∀ e ∈ B, 0 ≤ cmpS (spotE e) s) :
 ((run_place F (A ++ B) s).bind fun r6 =>
  (grow 56 (A ++ B) [z]).bind fun _ =>
  (lslice ((A ++ B) ++ [z]) (IntKind.i64.wrap (r6 + 1)) (((A ++ B) ++ [z]).length : Int)).bind fun s1 =>
  (lslice ((A ++ B) ++ [z]) r6 (((A ++ B) ++ [z]).length : Int)).bind fun s2 =>
  (idx (over ((A ++ B) ++ [z]) ((IntKind.i64.wrap (r6 + 1)).toNat) (s2.take s1.length)) r6).bind fun e4 =>
  some (((over ((A ++ B) ++ [z]) ((IntKind.i64.wrap (r6 + 1)).toNat) (s2.take s1.length)).set r6.toNat x), (0 : Int))) = some (A ++ x :: B, 0) := by
 have hlen : (A ++ B).length = A.length + B.length := List.length_append
 have hlen2 : ((A ++ B) ++ [z]).length = A.length + B.length + 1 := by simp; omega
 rw [run_place_eq A B s (by omega) hA hB, Option.bind_some, grow_ok (by simp; omega) (by simp; omega), Option.bind_some, w64 (by omega) (by omega),
  show ((A.length : Int) + 1) = ((A.length + 1 : Nat) : Int) by omega, lslice_from (by omega), Option.bind_some, lslice_from (by omega), Option.bind_some, idx_nat', Int.toNat_natCast, Int.toNat_natCast, insert_shift]
 have hov : A.length < (over ((A ++ B) ++ [z]) (A.length + 1) ((((A ++ B) ++ [z]).drop A.length).take (((A ++ B) ++ [z]).drop (A.length + 1)).length)).length := by
  rw [over_length]
  · omega
  · simp; omega
 rw [List.getElem?_eq_getElem hov, Option.bind_some]
theorem run_Put_eq (l : List DElem) (k : DKey) (v : ByteArray) (t : Int) : run_Put F l k v t = some (if putE l k v t = 0 then putR l k v t else [], putE l k v t) := by
 unfold run_Put
 rw [run_Check_eq, Option.bind_some, elem_Check_eq, Option.bind_some]
 show (bif chkR l != 0 then some ([], chkR l) else bif chkE (newE k v t) != 0 then some ([], chkE (newE k v t)) else _) = _
 by_cases h1 : chkR l = 0
 · have hr := chkR_zero.1 h1
   have hl := hr.len
   rw [bne0_false h1, cond_false]
   by_cases h2 : chkE (newE k v t) = 0
   · obtain ⟨_, t0, t1, _⟩ := newE_ok h2
     rw [bne0_false h2, cond_false, run_last_eq l (by omega), Option.bind_some]
     by_cases h3 : t < lastL l
     · have hz : putE l k v t = 9 := by unfold putE; rw [if_neg (by simpa using h1), if_neg (by simpa using h2), if_pos h3]
       rw [decide_eq_true h3, cond_true, hz]; rfl
     · rw [decide_eq_false h3, cond_false, grow_ok (by simp; omega) (by simp; omega), Option.bind_some, List.nil_append]
       have ht : lastL l ≤ t := by omega
       obtain ⟨c1, c2, c3⟩ := hr.clo ht t0 t1 k
       have hpl := put_length (k := k) (v := v) (t := t) hr
       have hE : putE l k v t = if 400 < (putR l k v t).length then 8 else 0 := by
        unfold putE; rw [if_neg (by simpa using h1), if_neg (by simpa using h2), if_neg h3]
       cases hn : nowR l k with
       | none =>
        rw [hn] at hpl
        rw [run_now_none hr hn, Option.bind_some, decide_eq_false (by omega), cond_false]
        simp only [Option.bind_some]
        by_cases h4 : l.length = 400
        · rw [show ((l.length : Int) == 400) = true by rw [beq_iff_eq]; omega, cond_true]
          have hz : putE l k v t = 8 := by rw [hE, if_pos (by rw [hpl]; show 400 < l.length + 1; omega)]
          rw [hz]; rfl
        · rw [show ((l.length : Int) == 400) = false by rw [beq_eq_false_iff_ne]; omega, cond_false]
          have hz : putE l k v t = 0 := by rw [hE, if_neg (by rw [hpl]; show ¬ 400 < l.length + 1; omega)]
          have hs : l = (lo l k ++ hist l k) ++ hi l k := by rw [List.append_assoc]; exact split3 k hr.ord
          have hp := put_in (F := F) (lo l k ++ hist l k) (hi l k) ⟨k, t⟩ (newE k v t) zeroE (by rw [← hs]; omega) (fun e he => by
           rcases List.mem_append.1 he with he | he
           · exact lo_spot e he
           · rw [← hist_now_none (t := t) hn] at he
             exact cmpS_lt.2 (.inr ⟨keys_clo (hist_keys l k) e he, (c3 e he).2⟩)) hi_spot
          rw [← hs] at hp
          have : putR l k v t = (lo l k ++ hist l k) ++ newE k v t :: hi l k := by unfold putR upd; rw [hist_now_none hn]; simp
          rw [hz, if_pos rfl, this]
          exact hp
       | some e =>
        rw [hn] at hpl
        obtain ⟨a, ha, hs, hnow⟩ := run_now_some (F := F) hr hn
        obtain ⟨a', ha', hclo⟩ := clo_now (t := t) hr.ord hn
        obtain ⟨hm, hk, hg⟩ := (nowR_some hr.ord).1 hn
        obtain rfl : a = a' := by
         have := ha.symm.trans ha'
         exact List.append_cancel_right this
        have hget : l[(lo l k ++ a).length]? = some e := get_mid hs
        rw [hnow, Option.bind_some, decide_eq_true (by omega), cond_true, idx_nat', hget, Option.bind_some, Option.bind_some]
        by_cases hmt : e.made = t
        · have hz : putE l k v t = 0 := by rw [hE, if_neg (by rw [hpl]; show ¬ 400 < (if e.made = t then _ else _); rw [if_pos hmt]; omega)]
          rw [show (e.made == t) = true by simpa using hmt, cond_true]
          have hset : l.set (lo l k ++ a).length ⟨e.key, e.made, e.gone, v⟩ = putR l k v t := by
           rw [set_mid hs]
           unfold putR upd newE
           rw [hclo, if_pos hmt, hk, hmt, hg]
           simp
          rw [hz, if_pos rfl, ← hset, Int.toNat_natCast]; rfl
        · rw [show (e.made == t) = false by simpa using hmt, cond_false]
          have hset : l.set (lo l k ++ a).length ⟨e.key, e.made, t, e.val⟩ = (lo l k ++ clo (hist l k) t) ++ hi l k := by
           rw [set_mid hs, hclo, if_neg hmt]
           simp
          simp only [Option.bind_some, Int.toNat_natCast]
          rw [hset]
          have hlen3 : ((lo l k ++ clo (hist l k) t) ++ hi l k).length = l.length := by rw [← hset, List.length_set]
          by_cases h4 : l.length = 400
          · rw [show ((((lo l k ++ clo (hist l k) t) ++ hi l k).length : Int) == 400) = true by rw [beq_iff_eq]; omega, cond_true]
            have hz : putE l k v t = 8 := by rw [hE, if_pos (by rw [hpl]; show 400 < (if e.made = t then _ else _); rw [if_neg hmt]; omega)]
            rw [hz]; rfl
          · rw [show ((((lo l k ++ clo (hist l k) t) ++ hi l k).length : Int) == 400) = false by rw [beq_eq_false_iff_ne]; omega, cond_false]
            have hz : putE l k v t = 0 := by rw [hE, if_neg (by rw [hpl]; show ¬ 400 < (if e.made = t then _ else _); rw [if_neg hmt]; omega)]
            have hp := put_in (F := F) (lo l k ++ clo (hist l k) t) (hi l k) ⟨k, t⟩ (newE k v t) zeroE (by omega) (fun e he => by
             rcases List.mem_append.1 he with he | he
             · exact lo_spot e he
             · exact cmpS_lt.2 (.inr ⟨keys_clo (hist_keys l k) e he, (c3 e he).2⟩)) hi_spot
            have : putR l k v t = (lo l k ++ clo (hist l k) t) ++ newE k v t :: hi l k := by unfold putR upd; simp
            rw [hz, if_pos rfl, this]
            exact hp
   · have hz : putE l k v t = chkE (newE k v t) := by unfold putE; rw [if_neg (by simpa using h1), if_pos h2]
     rw [bne0_true h2, cond_true, hz, if_neg h2]
 · have hz : putE l k v t = chkR l := by unfold putE; rw [if_pos h1]
   rw [bne0_true h1, cond_true, hz, if_neg h1]
def cutE (l : List DElem) (k : DKey) (t : Int) : Int :=
 if chkR l ≠ 0 then chkR l else if chkK k ≠ 0 then chkK k else if t < 1 ∨ 2147483647 < t ∨ t < lastL l then 9 else if (nowR l k).isNone then 4 else 0
theorem cutE_zero {l : List DElem} {k : DKey} {t : Int} : cutE l k t = 0 ↔ Run l ∧ chkK k = 0 ∧ 1 ≤ t ∧ t ≤ 2147483647 ∧ lastL l ≤ t ∧ (nowR l k).isSome = true := by
 unfold cutE
 rw [← chkR_zero]
 split
 · simp_all
 · split
   · simp_all
   · split
     · constructor
       · intro h; cases h
       · omega
     · cases nowR l k
       · simp
       · simp_all
theorem run_Cut_eq (l : List DElem) (k : DKey) (t : Int) : run_Cut F l k t = some (if cutE l k t = 0 then cutR l k t else [], cutE l k t) := by
 unfold run_Cut
 rw [run_Check_eq, Option.bind_some, key_Check_eq, Option.bind_some]
 by_cases h1 : chkR l = 0
 · have hr := chkR_zero.1 h1
   have hl := hr.len
   rw [bne0_false h1, cond_false]
   by_cases h2 : chkK k = 0
   · rw [bne0_false h2, cond_false, run_last_eq l (by omega)]
     have hb : (bif decide (t < 1) then some true else bif decide ((2147483647 : Int) < t) then some true else (some (lastL l)).bind fun r3 => some (decide (t < r3)) : Option Bool) = some (decide (t < 1 ∨ 2147483647 < t ∨ t < lastL l)) := by
      by_cases c1 : t < 1
      · simp [c1]
      · by_cases c2 : 2147483647 < t
        · simp [c1, c2]
        · simp [c1, c2]
     rw [hb, Option.bind_some]
     by_cases h3 : t < 1 ∨ 2147483647 < t ∨ t < lastL l
     · have hz : cutE l k t = 9 := by unfold cutE; rw [if_neg (by simpa using h1), if_neg (by simpa using h2), if_pos h3]
       rw [decide_eq_true h3, cond_true, hz]; rfl
     · rw [decide_eq_false h3, cond_false]
       have hE : cutE l k t = if (nowR l k).isNone then 4 else 0 := by unfold cutE; rw [if_neg (by simpa using h1), if_neg (by simpa using h2), if_neg h3]
       cases hn : nowR l k with
       | none =>
        rw [hn] at hE
        rw [run_now_none hr hn, Option.bind_some, decide_eq_true (by omega), cond_true, hE]; rfl
       | some e =>
        rw [hn] at hE
        have hz : cutE l k t = 0 := hE
        obtain ⟨a, ha, hs, hnow⟩ := run_now_some (F := F) hr hn
        obtain ⟨a', ha', hclo⟩ := clo_now (t := t) hr.ord hn
        obtain ⟨hm, hk, hg⟩ := (nowR_some hr.ord).1 hn
        obtain rfl : a = a' := List.append_cancel_right (ha.symm.trans ha')
        have hget : l[(lo l k ++ a).length]? = some e := get_mid hs
        have hlen := congrArg List.length hs
        rw [List.length_append, List.length_cons] at hlen
        rw [hnow, Option.bind_some, decide_eq_false (by omega), cond_false, grow_ok (by simp; omega) (by simp; omega), Option.bind_some, List.nil_append, idx_nat', hget, Option.bind_some, Option.bind_some, hz, if_pos rfl]
        by_cases hmt : e.made = t
        · rw [show (e.made == t) = true by simpa using hmt, cond_true, lslice_to (by omega), Option.bind_some, w64 (by omega) (by omega), show (((lo l k ++ a).length : Int) + 1) = (((lo l k ++ a).length + 1 : Nat) : Int) by omega, lslice_from (by omega), Option.bind_some]
          rw [take_mid hs, drop_mid hs, grow_ok (by rw [List.length_append] at *; omega) (by omega), Option.bind_some]
          unfold cutR upd
          rw [hclo, if_pos hmt]
          simp
        · rw [show (e.made == t) = false by simpa using hmt, cond_false, Int.toNat_natCast]
          have hset : l.set (lo l k ++ a).length ⟨e.key, e.made, t, e.val⟩ = cutR l k t := by
           rw [set_mid hs]
           unfold cutR upd
           rw [hclo, if_neg hmt]
           simp
          rw [hset]
   · have hz : cutE l k t = chkK k := by unfold cutE; rw [if_neg (by simpa using h1), if_pos h2]
     rw [bne0_true h2, cond_true, hz, if_neg h2]
 · have hz : cutE l k t = chkR l := by unfold cutE; rw [if_pos h1]
   rw [bne0_true h1, cond_true, hz, if_neg h1]
end Go.Proofs.YtacjdfhllomccaaGreatDoor
