/- The Go functions of group Lst compute the pure functions of that group: written by walkgen.py. Condition of each: the pure function yields a result. -/
import Derived.Test.YtacjdfhllomccaaGreatDoorSh2J
import Derived.Test.YtacjdfhllomccaaGreatDoorDirLJ
import Derived.Test.YtacjdfhllomccaaGreatDoorSortSJ
import Derived.Test.YtacjdfhllomccaaGreatDoorLstFJ
import Derived.Test.YtacjdfhllomccaaGreatDoorEqLJ
namespace Go.Proofs.YtacjdfhllomccaaGreatDoor
set_option linter.unusedVariables false
set_option maxRecDepth 100000 in
set_option maxHeartbeats 4000000 in
theorem dir_List_l (F : Nat) (p0 : (List DElem)) (p1 : Int) (p2 : Int) (p3 : Int) (r : ((List ByteArray)) × Int) (hF : dir_List F p0 p1 p2 p3 = some r) (w : World) (hGl : Glob w) (A1 : Option Addr) (c1 : Nat) (hs1 : SlOk (vw w) eElem A1 c1 p0) :
 Calls Tryz.prog 66 #[.slice A1 p0.length c1, .int .i64 p1, .int .i64 p2, .int .i64 p3] w (Post (vT2 (vSc (eList eStr)) (vSc eInt)) r w) := by
 unfold dir_List at hF
 refine T.start (l := [.slice A1 p0.length c1, vi p1, vi p2, vi p3]) Tryz.func66 rfl rfl rfl ?_
 refine T.seq (T.region (T.p2 sN (vi 0) (fun _ => by kernel_rfl) (T.nil (T.seq (T.seq (T.region (T.p3 (.slice A1 p0.length c1) (vi p1) (vi p2) (fun _ => by kernel_rfl) ?_)))))))
 obtain ⟨r1, hb1, hF⟩ := ob hF
 refine T.step (W1.call (vSc eInt) r1 90 #[.slice A1 p0.length c1, vi p1, vi p2] (by kernel_rfl) (fun _ => by kernel_rfl) (fun w' hh => dir_look_l F p0 p1 p2 r1 hb1 w' A1 c1 (SlOk.mono hs1 hh.view)) ?_)
 intro u V1 hV1 hu
 obtain rfl := sureInt _ _ _ hu
 refine T.pk (vi r1) (fun _ => by kernel_rfl) (T.nil (T.seq (T.region (T.p2 (vi r1) (.bool (r1 != 0)) (fun _ => by kernel_rfl) (T.nil ?_)))))
 refine T.cond (r1 != 0) (by kernel_rfl) (by kernel_rfl) (fun hc1 => ?_) (fun hc1 => ?_)
 ·
  rw [hc1, cond_true] at hF
  refine T.seq (T.region (T.p3 (vi r1) sN (vi r1) (fun _ => by kernel_rfl) (T.nil ?_)))
  cases hF
  refine T.ret rfl ?_
  exact T.ret2 rfl (ResIs.tmp rfl) (ResIs.tmp rfl) fun w' hh => ⟨_, rfl, hh.below, (vT2.mk ⟨_, _, rfl, (SlOk.nil _ _)⟩ (show _ from rfl))⟩
 rw [hc1, cond_false] at hF
 refine T.skip_code ?_
 refine T.seq (T.region (T.pk sN (fun _ => by kernel_rfl) (T.nil (T.seq (T.seq (T.region (T.p3 (.slice A1 p0.length c1) (vi (p0.length : Int)) (vi 0) (fun _ => by kernel_rfl) (T.nil ?_))))))))
 refine T.rownil 9 eStr ?_
 obtain ⟨z1, hz1, hF⟩ := ob hF
 refine T.mid (fun a w' => ∃ (A3 : Option Addr) (c3 : Nat) (V3 : View), View.le V1 V3 ∧ Fr 64 [(11, .slice A3 z1.length c3)] a ∧ Hp w V3 ((row 9 eStr A3 c3 z1) :: []) w') ?_ ?_
 ·
  refine T.block ?_
  refine T.iter (fun s1 a w' => ∃ (x1 : List ByteArray) (x2 : Int), s1 = (x1, x2) ∧ ∃ (A2 : Option Addr) (c2 : Nat) (V2 : View), View.le V1 V2 ∧ Fr 64 [(1, vi p1), (2, vi p2), (3, vi p3), (11, .slice A2 x1.length c2), (24, .slice A1 p0.length c1), (25, vi (p0.length : Int)), (26, vi x2)] a ∧ Hp w V2 ((row 9 eStr A2 c2 x1) :: []) w') hz1 ?_ ?_
  ·
   exact fun a w' hf hh => ⟨[], 0, rfl, none, 0, V1, vr, (Fr.sel hf rfl), (hh.sub (kp1 kp0))⟩
  rintro s1 y1 hY1 hr1 a w' ⟨x1, x2, rfl, A2, c2, V2, hV2, hf, hh⟩
  refine (?_ : T 64 w V2 ((row 9 eStr A2 c2 x1) :: []) [(1, vi p1), (2, vi p2), (3, vi p3), (11, .slice A2 x1.length c2), (24, .slice A1 p0.length c1), (25, vi (p0.length : Int)), (26, vi x2)] _) a w' hf hh
  clear hf hh
  try dsimp only at hY1
  refine T.seq (T.region (T.pk (.bool (decide (x2 < (p0.length : Int)))) (fun _ => by kernel_rfl) (T.nil (T.seq ?_))))
  refine T.cond (decide (x2 < (p0.length : Int))) (by kernel_rfl) (by kernel_rfl) (fun hc2 => ?_) (fun hc2 => ?_)
  ·
   rw [hc2, cond_true] at hY1
   refine T.skip_code ?_
   obtain ⟨z2, hX1, hY1⟩ := ob hY1
   refine T.cut (fun a w' => ∃ (A4 : Option Addr) (c4 : Nat) (V4 : View), View.le V2 V4 ∧ Fr 64 [(1, vi p1), (2, vi p2), (3, vi p3), (11, .slice A4 z2.length c4), (24, .slice A1 p0.length c1), (25, vi (p0.length : Int)), (26, vi x2)] a ∧ Hp w V4 ((row 9 eStr A4 c4 z2) :: []) w') ?_ ?_
   ·
    refine T.block (T.seq (T.region ?_))
    obtain ⟨e1, hb2, hX1⟩ := ob hX1
    obtain ⟨hi1, hi2, hi3⟩ := idx_some hb2
    refine T.look (.pointer (some ((sadr A1).add (x2.toNat * 6)))) (by kernel_rfl) (fun w' hh => exec_indexAddr (e := 44) (s := 6) rfl rfl rfl (by kernel_rfl) (by kernel_rfl) hi1 hi2 ((SlOk.mono hs1 (vt hV1 hV2)).some_ hi3 (by decide))) ?_
    let v4_ : List Value := [vi e1.key.pfs, vi e1.key.obj, vi e1.key.off, vi e1.made, vi e1.gone, .string e1.val]
    let a5_ : Value := .agg #[vi e1.key.pfs, vi e1.key.obj, vi e1.key.off, vi e1.made, vi e1.gone, .string e1.val]
    refine T.look a5_ (by kernel_rfl) (fun w' hh => exec_loadN (cs := v4_) rfl rfl (by kernel_rfl) (by kernel_rfl) (fun j u hj => (hh.cell_view (SlOk.cellF (E := eElem) (SlOk.mono hs1 (vt hV1 hV2)) hi3 j (fun _ _ _ h => h) hj)))) ?_
    refine T.step (W1.np 44 [vi 0, vi 0, vi 0, vi 0, vi 0, .string (ByteArray.mk #[])] (fun _ => by kernel_rfl) (fun b1 => ?_))
    let i1_ : HObj := box b1 44 v4_
    let t2_ : List HObj := i1_ :: (row 9 eStr A2 c2 x1) :: []
    refine T.step (W1.st 0 v4_ t2_ v4_ (by rfl) rfl rfl rfl rfl rfl rfl (fun _ => by kernel_rfl) ?_)
    refine T.nil (T.seq ?_)
    obtain ⟨z3, hX2, hX1⟩ := ob hX1
    refine T.cut (fun a w' => ∃ (V5 : View), View.le V2 V5 ∧ Fr 64 [(1, vi p1), (2, vi p2), (3, vi p3), (11, .slice A2 x1.length c2), (13, pB b1 0), (24, .slice A1 p0.length c1), (25, vi (p0.length : Int)), (26, vi x2), (47, .bool z3)] a ∧ Hp w V5 t2_ w') ?_ ?_
    ·
     refine T.region (T.p2 (pB b1 0) (pB b1 0) (fun _ => by kernel_rfl) (T.look (vi e1.key.pfs) (by kernel_rfl) (ld1 0 rfl rfl (fun _ => by kernel_rfl) (by rfl) rfl) ?_))
     refine T.p3 (vi p1) (.bool (e1.key.pfs != p1)) (.bool (e1.key.pfs != p1)) (fun _ => by kernel_rfl) ?_
     cases hg1 : (e1.key.pfs != p1)
     ·
      skip
      rw [hg1, cond_false] at hX2
      refine T.p2 (pB b1 0) (pB b1 1) (fun _ => by kernel_rfl) (T.look (vi e1.key.obj) (by kernel_rfl) (ld1 0 rfl rfl (fun _ => by kernel_rfl) (by rfl) rfl) ?_)
      refine T.p4 (vi p2) (.bool (e1.key.obj != p2)) (.bool (e1.key.obj != p2)) (.bool (e1.key.obj != p2)) (fun _ => by kernel_rfl) ?_
      cases hg2 : (e1.key.obj != p2)
      ·
       skip
       rw [hg2, cond_false] at hX2
       refine T.look a5_ (by kernel_rfl) (ldN 0 rfl rfl (fun _ => by kernel_rfl) (by rfl) rfl) ?_
       refine T.pk (vi p3) (fun _ => by kernel_rfl) ?_
       obtain ⟨r3, hb3, hX2⟩ := ob hX2
       refine T.step (W1.call (vSc eBool) r3 63 #[a5_, vi p3] (by kernel_rfl) (fun _ => by kernel_rfl) (fun w' hh => elem_Live_l e1 p3 r3 hb3 w' ) ?_)
       intro u V6 hV6 hu
       obtain rfl := sureBool _ _ _ hu
       refine T.p2 (.bool (!r3)) (.bool (!r3)) (fun _ => by kernel_rfl) (T.nil ?_)
       cases hX2
       exact fun a w' hf hh => ⟨V6, hV6, (Fr.sel hf rfl), (hh.sub (kp1 (kp1 kp0)))⟩
      skip
      rw [hg2, cond_true] at hX2
      refine T.pass (by kernel_rfl) (by kernel_rfl) (T.pass (by kernel_rfl) (by kernel_rfl) (T.pass (by kernel_rfl) (by kernel_rfl) (T.pass (by kernel_rfl) (by kernel_rfl) (T.pk (.bool true) (fun _ => by kernel_rfl) (T.nil ?_)))))
      cases hX2
      exact fun a w' hf hh => ⟨V2, vr, (Fr.sel hf rfl), (hh.sub (kp1 (kp1 kp0)))⟩
     skip
     rw [hg1, cond_true] at hX2
     refine T.pass (by kernel_rfl) (by kernel_rfl) (T.pass (by kernel_rfl) (by kernel_rfl) (T.pass (by kernel_rfl) (by kernel_rfl) (T.pass (by kernel_rfl) (by kernel_rfl) (T.pass (by kernel_rfl) (by kernel_rfl) (T.p2 (.bool true) (.bool true) (fun _ => by kernel_rfl) (T.pass (by kernel_rfl) (by kernel_rfl) (T.pass (by kernel_rfl) (by kernel_rfl) (T.pass (by kernel_rfl) (by kernel_rfl) (T.pass (by kernel_rfl) (by kernel_rfl) (T.pk (.bool true) (fun _ => by kernel_rfl) (T.nil ?_)))))))))))
     cases hX2
     exact fun a w' hf hh => ⟨V2, vr, (Fr.sel hf rfl), (hh.sub (kp1 (kp1 kp0)))⟩
    rintro a w' ⟨V5, hV5, hf, hh⟩
    refine (?_ : T 64 w V5 t2_ [(1, vi p1), (2, vi p2), (3, vi p3), (11, .slice A2 x1.length c2), (13, pB b1 0), (24, .slice A1 p0.length c1), (25, vi (p0.length : Int)), (26, vi x2), (47, .bool z3)] _) a w' hf hh
    clear hf hh
    refine T.cond z3 (by kernel_rfl) (by kernel_rfl) (fun hc3 => ?_) (fun hc3 => ?_)
    ·
     rw [hc3, cond_true] at hX1
     refine T.exit ?_
     cases hX1
     exact fun a w' hf hh => ⟨A2, c2, V5, hV5, (Fr.sel hf rfl), (hh.sub (dr1 (kp1 kp0)))⟩
    rw [hc3, cond_false] at hX1
    refine T.skip_code ?_
    refine T.seq (T.region (T.look a5_ (by kernel_rfl) (ldN 0 rfl rfl (fun _ => by kernel_rfl) (by rfl) rfl) ?_))
    obtain ⟨r4, hb4, hX1⟩ := ob hX1
    refine T.step (W1.call (vT3 (vSc eStr) (vSc eInt) (vSc eBool)) r4 103 #[a5_] (by kernel_rfl) (fun _ => by kernel_rfl) (fun w' hh => dir_entry_l F e1 r4 hb4 w' (Glob.mono hGl (vt hh.base hh.view))) ?_)
    intro u V7 hV7 hu
    obtain rfl := (Sure.t3 sureStr sureInt sureBool) _ _ _ hu
    refine T.p7 (.tuple #[.string r4.1, vi r4.2.1, .bool r4.2.2]) (.string r4.1) (vi r4.2.1) (.bool r4.2.2) (.string r4.1) (vi r4.2.1) (.bool r4.2.2) (fun _ => by kernel_rfl) (T.nil (T.seq (T.region (T.pk (.bool r4.2.2) (fun _ => by kernel_rfl) (T.nil ?_)))))
    refine T.cond r4.2.2 (by kernel_rfl) (by kernel_rfl) (fun hc4 => ?_) (fun hc4 => ?_)
    ·
     rw [hc4, cond_true] at hX1
     refine T.region (T.p2 (.slice A2 x1.length c2) (.string r4.1) (fun _ => by kernel_rfl) (T.step (W1.ns 9 [.string r4.1] (fun _ => by kernel_rfl) (fun b2 => ?_))))
     obtain ⟨y2, hb5, hX1⟩ := ob hX1
     obtain ⟨hb5_r, hb5_m, rfl⟩ := grow_some hb5
     obtain ⟨ti, hti, hz1, hz2, hz3⟩ := info_parts (P := Tryz.prog) (e := 9) (z := .string (ByteArray.mk #[])) (size := 1) (bytes := 16) (by kernel_rfl)
     refine T.step (W1.append (E := eStr) (l := x1) (m := [r4.1]) 2 _ _ 16 ti _ (by rfl) (by kernel_rfl) rfl (by kernel_rfl) hti hz1 hz2 hz3 rfl (by decide) rfl rfl (fun w' hh => (SlOk.srcF (slok_lit (E := eStr) (f := (fun x => [.string x])) [r4.1] (fun _ _ => rfl) (Nat.le_of_ble_eq_true (by rfl)) (fun j => hh.cellBox (i := 0) (by rfl) j)) (fun _ _ _ _ h => h))) hb5_r hb5_m (fun A5 c5 => ?_))
     refine T.pk (.slice A5 ((x1 ++ [r4.1]).length) c5) (fun _ => by kernel_rfl) (T.nil ?_)
     cases hX1
     exact fun a w' hf hh => ⟨A5, c5, V7, (vt hV5 hV7), (Fr.sel hf rfl), (hh.sub (dr2 (kp1 kp0)))⟩
    rw [hc4, cond_false] at hX1
    refine T.skip_code ?_
    cases hX1
    exact fun a w' hf hh => ⟨A2, c2, V7, (vt hV5 hV7), (Fr.sel hf rfl), (hh.sub (dr1 (kp1 kp0)))⟩
   rintro a w' ⟨A4, c4, V4, hV4, hf, hh⟩
   refine (?_ : T 64 w V4 ((row 9 eStr A4 c4 z2) :: []) [(1, vi p1), (2, vi p2), (3, vi p3), (11, .slice A4 z2.length c4), (24, .slice A1 p0.length c1), (25, vi (p0.length : Int)), (26, vi x2)] _) a w' hf hh
   clear hf hh
   refine T.region (T.p2 (vi (IntKind.i64.wrap (x2 + 1))) (vi (IntKind.i64.wrap (x2 + 1))) (fun _ => by kernel_rfl) (T.nil ?_))
   cases hY1
   exact fun a w' hf hh => ⟨(z2, IntKind.i64.wrap (x2 + 1)), rfl, z2, (IntKind.i64.wrap (x2 + 1)), rfl, A4, c4, V4, (vt hV2 hV4), (Fr.sel hf rfl), (hh.sub (kp1 kp0))⟩
  rw [hc2, cond_false] at hY1
  refine T.exit ?_
  cases hY1
  cases (hr1 _ rfl)
  exact fun a w' hf hh => ⟨A2, c2, V2, hV2, (Fr.sel hf rfl), (hh.sub (kp1 kp0))⟩
 rintro a w' ⟨A3, c3, V3, hV3, hf, hh⟩
 refine (?_ : T 64 w V3 ((row 9 eStr A3 c3 z1) :: []) [(11, .slice A3 z1.length c3)] _) a w' hf hh
 clear hf hh
 refine T.seq (T.region (T.pk (.slice A3 z1.length c3) (fun _ => by kernel_rfl) ?_))
 obtain ⟨y3, hb6, hF⟩ := ob hF
 obtain ⟨hy1, rfl⟩ := ssortO_some hb6
 refine T.step (W1.callI 104 [.slice A3 z1.length c3] (fun v w' => v = .tuple #[] ∧ Hp w V3 ((row 9 eStr A3 c3 (ssort z1)) :: []) w') (by kernel_rfl) (fun _ => by kernel_rfl) (fun w' hh => (own_sort_str hy1 (hh.perm pz)).mono (by rintro e_ w_ ⟨rfl, h_⟩; exact ⟨_, rfl, rfl, h_⟩)) ?_)
 rintro v w' ⟨rfl, hh⟩
 refine ⟨V3, ((row 9 eStr A3 c3 (ssort z1)) :: []), hh.perm pz, ?_⟩
 clear hh
 have hl1 : (ssort z1).length = z1.length := (by exact ssort_length _)
 refine T.reslot 11 (.slice A3 ((ssort z1).length) c3) rfl (by simp +zetaDelta only [hl1]) ?_
 refine T.reslot 60 (.slice A3 ((ssort z1).length) c3) rfl (by simp +zetaDelta only [hl1]) ?_
 refine T.nil (T.seq (T.region (T.pk (.slice A3 ((ssort z1).length) c3) (fun _ => by kernel_rfl) ?_)))
 let i3_ : HObj := row 9 eStr A3 c3 (scomp (ssort z1))
 refine T.step (W1.callI 105 [.slice A3 ((ssort z1).length) c3] (fun v w' => v = .slice A3 (scomp (ssort z1)).length c3 ∧ Hp w V3 (i3_ :: []) w') (by kernel_rfl) (fun _ => by kernel_rfl) (fun w' hh => (own_compact_str (hh.perm pz)).mono (by rintro e_ w_ ⟨rfl, h_⟩; exact ⟨_, rfl, rfl, h_⟩)) ?_)
 rintro v w' ⟨rfl, hh⟩
 refine ⟨V3, (i3_ :: []), hh.perm pz, ?_⟩
 clear hh
 refine T.p2 (.slice A3 ((scomp (ssort z1)).length) c3) (vi 0) (fun _ => by kernel_rfl) (T.nil ?_)
 cases hF
 refine T.ret rfl ?_
 exact T.ret2 rfl (ResIs.tmp rfl) (ResIs.tmp rfl) fun w' hh => ⟨_, rfl, hh.below, (vT2.mk ⟨_, _, rfl, (hh.row_fresh (i := 0) (by rfl) (fun _ h => h))⟩ (show _ from rfl))⟩
end Go.Proofs.YtacjdfhllomccaaGreatDoor
