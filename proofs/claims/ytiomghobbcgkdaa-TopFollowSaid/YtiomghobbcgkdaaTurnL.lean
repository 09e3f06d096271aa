/- The Go functions of group Turn compute the pure functions of that group: written by walkgen.py. Condition of each: the pure function yields a result. -/
import Derived.Test.YtiomghobbcgkdaaRealmL
import Derived.Test.YtiomghobbcgkdaaTurnF
import Derived.Test.YtiomghobbcgkdaaEqL
namespace Go.Proofs.Ytiomghobbcgkdaa
set_option linter.unusedVariables false

set_option maxRecDepth 100000 in
set_option maxHeartbeats 4000000 in
theorem realm_Make_l (F : Nat) (p0 : DBook) (p1 : Int) (p2 : Int) (r : DBook × Int) (hF : realm_Make F p0 p1 p2 = some r) (w : World) (A1 : Option Addr) (c1 : Nat) (hs1 : SlOk (vw w) eElem A1 c1 p0.run) :
    Calls Try.prog 7 #[.agg (List.toArray ((.slice A1 p0.run.length c1) :: (DA16.cells p0.roles ++ (DA16.cells p0.fed)))), .int .i64 p1, .int .i64 p2] w (Post (vT2 (vAg eBook) (vSc eInt)) r w) := by
 unfold realm_Make at hF
 refine T.start (l := [.agg (List.toArray ((.slice A1 p0.run.length c1) :: (DA16.cells p0.roles ++ (DA16.cells p0.fed)))), .int .i64 p1, .int .i64 p2]) Try.func7 rfl rfl rfl ?_
 refine T.seq ?_
 refine T.region ?_
 refine T.step (W1.new 26 ((.slice A1 p0.run.length c1) :: (DA16.cells p0.roles ++ (DA16.cells p0.fed))) (fun b => .pointer (some ⟨b, 0, none⟩)) (by kernel_rfl) (fun _ => by kernel_rfl) (fun b1 => ?_))
 refine T.step (W1.new 26 ((.slice none 0 0) :: (DA16.cells (DA16.mk 0 0 0 0 0 0 0 0 0 0 0 0 0 0 0 0) ++ (DA16.cells (DA16.mk 0 0 0 0 0 0 0 0 0 0 0 0 0 0 0 0)))) (fun b => .pointer (some ⟨b, 0, none⟩)) (by kernel_rfl) (fun _ => by kernel_rfl) (fun b2 => ?_))
 refine T.pure (.int .i64 0) (by kernel_rfl) (fun _ => by kernel_rfl) ?_
 refine T.nil ?_
 refine T.seq ?_
 refine T.seq ?_
 refine T.region ?_
 refine T.look (.agg (List.toArray ((.slice A1 p0.run.length c1) :: (DA16.cells p0.roles ++ (DA16.cells p0.fed))))) (by kernel_rfl) (fun w' hh => exec_loadN (cs := ((.slice A1 p0.run.length c1) :: (DA16.cells p0.roles ++ (DA16.cells p0.fed)))) rfl rfl (by kernel_rfl) (by kernel_rfl) (fun j u hj => (hh.box_at (i := 1) (cs := ((.slice A1 p0.run.length c1) :: (DA16.cells p0.roles ++ (DA16.cells p0.fed)))) (by rfl) 0 j).trans (seg_at (n := 33) (by rfl) hj))) ?_
 refine T.pure (.int .i64 p1) (by kernel_rfl) (fun _ => by kernel_rfl) ?_
 obtain ⟨r1, hb1, hF⟩ := Option.bind_eq_some_iff.1 hF
 refine T.step (W1.call (vSc eInt) r1 47 #[.agg (List.toArray ((.slice A1 p0.run.length c1) :: (DA16.cells p0.roles ++ (DA16.cells p0.fed)))), .int .i64 p1] (by kernel_rfl) (fun _ => by kernel_rfl) (fun w' hh => realm_look_l F p0 p1 r1 hb1 w' A1 c1 (SlOk.mono hs1 hh.view)) ?_)
 intro u V1 hV1 hu
 obtain rfl := sureInt _ _ _ hu
 refine T.pure (.int .i64 r1) (by kernel_rfl) (fun _ => by kernel_rfl) ?_
 refine T.nil ?_
 refine T.seq ?_
 refine T.region ?_
 refine T.pure (.int .i64 r1) (by kernel_rfl) (fun _ => by kernel_rfl) ?_
 refine T.pure (.bool (r1 != 0)) (by kernel_rfl) (fun _ => by kernel_rfl) ?_
 refine T.nil ?_
 refine T.cond (r1 != 0) (by kernel_rfl) (by kernel_rfl) (fun hc1 => ?_) (fun hc1 => ?_)
 ·
  rw [hc1, cond_true] at hF
  refine T.seq ?_
  refine T.region ?_
  refine T.pure (.agg (List.toArray ((.slice none 0 0) :: (DA16.cells (DA16.mk 0 0 0 0 0 0 0 0 0 0 0 0 0 0 0 0) ++ (DA16.cells (DA16.mk 0 0 0 0 0 0 0 0 0 0 0 0 0 0 0 0)))))) (by kernel_rfl) (fun _ => by kernel_rfl) ?_
  refine T.pure (.int .i64 r1) (by kernel_rfl) (fun _ => by kernel_rfl) ?_
  refine T.step (W1.store 0 ((.slice none 0 0) :: (DA16.cells (DA16.mk 0 0 0 0 0 0 0 0 0 0 0 0 0 0 0 0) ++ (DA16.cells (DA16.mk 0 0 0 0 0 0 0 0 0 0 0 0 0 0 0 0)))) [box b2 26 ((.slice none 0 0) :: (DA16.cells (DA16.mk 0 0 0 0 0 0 0 0 0 0 0 0 0 0 0 0) ++ (DA16.cells (DA16.mk 0 0 0 0 0 0 0 0 0 0 0 0 0 0 0 0)))), box b1 26 ((.slice A1 p0.run.length c1) :: (DA16.cells p0.roles ++ (DA16.cells p0.fed)))] (by rfl) rfl (by kernel_rfl) (fun w' hw => exec_store (vs := ((.slice none 0 0) :: (DA16.cells (DA16.mk 0 0 0 0 0 0 0 0 0 0 0 0 0 0 0 0) ++ (DA16.cells (DA16.mk 0 0 0 0 0 0 0 0 0 0 0 0 0 0 0 0))))) rfl rfl rfl rfl (by kernel_rfl) (one_of rfl) (Nat.le_of_ble_eq_true (by rfl)) rfl hw) ?_)
  refine T.pure (.int .i64 r1) (by kernel_rfl) (fun _ => by kernel_rfl) ?_
  refine T.nil ?_
  cases hF
  refine T.ret rfl ?_
  exact T.ret2 rfl (ResIs.cellN 0 rfl (by rfl) (fun _ => by kernel_rfl) (fun _ => by kernel_rfl)) (ResIs.tmp rfl) fun w' hh => ⟨_, rfl, hh.below, (vT2.mk (vAg.mk ⟨_, _, rfl, (SlOk.nil _ _)⟩) (show _ from rfl))⟩
 ·
  rw [hc1, cond_false] at hF
  refine T.skip_code ?_
  refine T.seq ?_
  refine T.cut (fun a w' => Fr 37 [(1, .int .i64 p1), (2, .int .i64 p2), (3, .pointer (some ⟨b1, 0, none⟩)), (6, .pointer (some ⟨b2, 0, none⟩)), (22, .bool ((p2 != 1) && (p2 != 2)))] a ∧ Hp w V1 [box b2 26 ((.slice none 0 0) :: (DA16.cells (DA16.mk 0 0 0 0 0 0 0 0 0 0 0 0 0 0 0 0) ++ (DA16.cells (DA16.mk 0 0 0 0 0 0 0 0 0 0 0 0 0 0 0 0)))), box b1 26 ((.slice A1 p0.run.length c1) :: (DA16.cells p0.roles ++ (DA16.cells p0.fed)))] w') ?_ ?_
  ·
   refine T.region ?_
   refine T.pure (.int .i64 p2) (by kernel_rfl) (fun _ => by kernel_rfl) ?_
   refine T.pure (.bool (p2 != 1)) (by kernel_rfl) (fun _ => by kernel_rfl) ?_
   refine T.pure (.bool (p2 != 1)) (by kernel_rfl) (fun _ => by kernel_rfl) ?_
   cases hg1 : (p2 != 1)
   ·
    skip
    refine T.pass (by kernel_rfl) (by kernel_rfl) ?_
    refine T.pass (by kernel_rfl) (by kernel_rfl) ?_
    refine T.pure (.bool false) (by kernel_rfl) (fun _ => by kernel_rfl) ?_
    refine T.nil ?_
    exact fun a w' hf hh => And.intro ((((((Fr.nil hf).pick hf 22 rfl).pick hf 6 rfl).pick hf 3 rfl).pick hf 2 rfl).pick hf 1 rfl) (hh.sub (.cons_cons _ (.cons_cons _ List.Sublist.slnil)))
   ·
    skip
    refine T.pure (.int .i64 p2) (by kernel_rfl) (fun _ => by kernel_rfl) ?_
    refine T.pure (.bool (p2 != 2)) (by kernel_rfl) (fun _ => by kernel_rfl) ?_
    refine T.pure (.bool (p2 != 2)) (by kernel_rfl) (fun _ => by kernel_rfl) ?_
    refine T.nil ?_
    exact fun a w' hf hh => And.intro ((((((Fr.nil hf).pick hf 22 rfl).pick hf 6 rfl).pick hf 3 rfl).pick hf 2 rfl).pick hf 1 rfl) (hh.sub (.cons_cons _ (.cons_cons _ List.Sublist.slnil)))
  ·
   rintro a w' ⟨hf, hh⟩
   refine (?_ : T 37 w V1 [box b2 26 ((.slice none 0 0) :: (DA16.cells (DA16.mk 0 0 0 0 0 0 0 0 0 0 0 0 0 0 0 0) ++ (DA16.cells (DA16.mk 0 0 0 0 0 0 0 0 0 0 0 0 0 0 0 0)))), box b1 26 ((.slice A1 p0.run.length c1) :: (DA16.cells p0.roles ++ (DA16.cells p0.fed)))] [(1, .int .i64 p1), (2, .int .i64 p2), (3, .pointer (some ⟨b1, 0, none⟩)), (6, .pointer (some ⟨b2, 0, none⟩)), (22, .bool ((p2 != 1) && (p2 != 2)))] _) a w' hf hh
   clear hf hh
   refine T.cond ((p2 != 1) && (p2 != 2)) (by kernel_rfl) (by kernel_rfl) (fun hc2 => ?_) (fun hc2 => ?_)
   ·
    rw [hc2, cond_true] at hF
    refine T.seq ?_
    refine T.region ?_
    refine T.pure (.agg (List.toArray ((.slice none 0 0) :: (DA16.cells (DA16.mk 0 0 0 0 0 0 0 0 0 0 0 0 0 0 0 0) ++ (DA16.cells (DA16.mk 0 0 0 0 0 0 0 0 0 0 0 0 0 0 0 0)))))) (by kernel_rfl) (fun _ => by kernel_rfl) ?_
    refine T.step (W1.store 0 ((.slice none 0 0) :: (DA16.cells (DA16.mk 0 0 0 0 0 0 0 0 0 0 0 0 0 0 0 0) ++ (DA16.cells (DA16.mk 0 0 0 0 0 0 0 0 0 0 0 0 0 0 0 0)))) [box b2 26 ((.slice none 0 0) :: (DA16.cells (DA16.mk 0 0 0 0 0 0 0 0 0 0 0 0 0 0 0 0) ++ (DA16.cells (DA16.mk 0 0 0 0 0 0 0 0 0 0 0 0 0 0 0 0)))), box b1 26 ((.slice A1 p0.run.length c1) :: (DA16.cells p0.roles ++ (DA16.cells p0.fed)))] (by rfl) rfl (by kernel_rfl) (fun w' hw => exec_store (vs := ((.slice none 0 0) :: (DA16.cells (DA16.mk 0 0 0 0 0 0 0 0 0 0 0 0 0 0 0 0) ++ (DA16.cells (DA16.mk 0 0 0 0 0 0 0 0 0 0 0 0 0 0 0 0))))) rfl rfl rfl rfl (by kernel_rfl) (one_of rfl) (Nat.le_of_ble_eq_true (by rfl)) rfl hw) ?_)
    refine T.pure (.int .i64 1) (by kernel_rfl) (fun _ => by kernel_rfl) ?_
    refine T.nil ?_
    cases hF
    refine T.ret rfl ?_
    exact T.ret2 rfl (ResIs.cellN 0 rfl (by rfl) (fun _ => by kernel_rfl) (fun _ => by kernel_rfl)) (ResIs.tmp rfl) fun w' hh => ⟨_, rfl, hh.below, (vT2.mk (vAg.mk ⟨_, _, rfl, (SlOk.nil _ _)⟩) (show _ from rfl))⟩
   ·
    rw [hc2, cond_false] at hF
    refine T.skip_code ?_
    refine T.seq ?_
    refine T.seq ?_
    refine T.region ?_
    refine T.pure (.int .i64 p1) (by kernel_rfl) (fun _ => by kernel_rfl) ?_
    refine T.pure (.pointer (some ⟨b1, 1, none⟩)) (by kernel_rfl) (fun _ => by kernel_rfl) ?_
    obtain ⟨e1, hb2, hF⟩ := Option.bind_eq_some_iff.1 hF
    obtain ⟨hi1, hi2, hi3⟩ := idx_some hb2
    refine T.look (.pointer (some ((⟨b1, 1, none⟩ : Addr).add (p1.toNat * 1)))) (by kernel_rfl) (fun w' hh => exec_arrAddr (e := 3) rfl rfl rfl (by kernel_rfl) (by kernel_rfl) hi1 hi2) ?_
    refine T.look (.int .i64 e1) (by kernel_rfl) (fun w' hh => exec_load1 rfl rfl (by kernel_rfl) (hh.arr_at (i := 1) (by rfl) 1 p0.roles rfl hi3)) ?_
    refine T.pure (.bool (e1 != 0)) (by kernel_rfl) (fun _ => by kernel_rfl) ?_
    refine T.nil ?_
    refine T.cond (e1 != 0) (by kernel_rfl) (by kernel_rfl) (fun hc3 => ?_) (fun hc3 => ?_)
    ·
     rw [hc3, cond_true] at hF
     refine T.seq ?_
     refine T.region ?_
     refine T.pure (.agg (List.toArray ((.slice none 0 0) :: (DA16.cells (DA16.mk 0 0 0 0 0 0 0 0 0 0 0 0 0 0 0 0) ++ (DA16.cells (DA16.mk 0 0 0 0 0 0 0 0 0 0 0 0 0 0 0 0)))))) (by kernel_rfl) (fun _ => by kernel_rfl) ?_
     refine T.step (W1.store 0 ((.slice none 0 0) :: (DA16.cells (DA16.mk 0 0 0 0 0 0 0 0 0 0 0 0 0 0 0 0) ++ (DA16.cells (DA16.mk 0 0 0 0 0 0 0 0 0 0 0 0 0 0 0 0)))) [box b2 26 ((.slice none 0 0) :: (DA16.cells (DA16.mk 0 0 0 0 0 0 0 0 0 0 0 0 0 0 0 0) ++ (DA16.cells (DA16.mk 0 0 0 0 0 0 0 0 0 0 0 0 0 0 0 0)))), box b1 26 ((.slice A1 p0.run.length c1) :: (DA16.cells p0.roles ++ (DA16.cells p0.fed)))] (by rfl) rfl (by kernel_rfl) (fun w' hw => exec_store (vs := ((.slice none 0 0) :: (DA16.cells (DA16.mk 0 0 0 0 0 0 0 0 0 0 0 0 0 0 0 0) ++ (DA16.cells (DA16.mk 0 0 0 0 0 0 0 0 0 0 0 0 0 0 0 0))))) rfl rfl rfl rfl (by kernel_rfl) (one_of rfl) (Nat.le_of_ble_eq_true (by rfl)) rfl hw) ?_)
     refine T.pure (.int .i64 5) (by kernel_rfl) (fun _ => by kernel_rfl) ?_
     refine T.nil ?_
     cases hF
     refine T.ret rfl ?_
     exact T.ret2 rfl (ResIs.cellN 0 rfl (by rfl) (fun _ => by kernel_rfl) (fun _ => by kernel_rfl)) (ResIs.tmp rfl) fun w' hh => ⟨_, rfl, hh.below, (vT2.mk (vAg.mk ⟨_, _, rfl, (SlOk.nil _ _)⟩) (show _ from rfl))⟩
    ·
     rw [hc3, cond_false] at hF
     refine T.skip_code ?_
     refine T.seq ?_
     refine T.region ?_
     refine T.look (.agg (List.toArray ((.slice A1 p0.run.length c1) :: (DA16.cells p0.roles ++ (DA16.cells p0.fed))))) (by kernel_rfl) (fun w' hh => exec_loadN (cs := ((.slice A1 p0.run.length c1) :: (DA16.cells p0.roles ++ (DA16.cells p0.fed)))) rfl rfl (by kernel_rfl) (by kernel_rfl) (fun j u hj => (hh.box_at (i := 1) (cs := ((.slice A1 p0.run.length c1) :: (DA16.cells p0.roles ++ (DA16.cells p0.fed)))) (by rfl) 0 j).trans (seg_at (n := 33) (by rfl) hj))) ?_
     obtain ⟨r2, hb3, hF⟩ := Option.bind_eq_some_iff.1 hF
     refine T.step (W1.call (vAg eBook) r2 48 #[.agg (List.toArray ((.slice A1 p0.run.length c1) :: (DA16.cells p0.roles ++ (DA16.cells p0.fed))))] (by kernel_rfl) (fun _ => by kernel_rfl) (fun w' hh => realm_copied_l p0 r2 hb3 w' A1 c1 (SlOk.mono (SlOk.mono hs1 hV1) hh.view)) ?_)
     intro u V2 hV2 hu
     obtain ⟨cs1, rfl, hr1⟩ := vagg_elim hu
     obtain ⟨A2, c2, rfl, hs2⟩ := hr1
     refine T.step (W1.new 26 ((.slice none 0 0) :: (DA16.cells (DA16.mk 0 0 0 0 0 0 0 0 0 0 0 0 0 0 0 0) ++ (DA16.cells (DA16.mk 0 0 0 0 0 0 0 0 0 0 0 0 0 0 0 0)))) (fun b => .pointer (some ⟨b, 0, none⟩)) (by kernel_rfl) (fun _ => by kernel_rfl) (fun b3 => ?_))
     refine T.step (W1.store 0 ((.slice A2 r2.run.length c2) :: (DA16.cells r2.roles ++ (DA16.cells r2.fed))) [box b3 26 ((.slice A2 r2.run.length c2) :: (DA16.cells r2.roles ++ (DA16.cells r2.fed))), box b2 26 ((.slice none 0 0) :: (DA16.cells (DA16.mk 0 0 0 0 0 0 0 0 0 0 0 0 0 0 0 0) ++ (DA16.cells (DA16.mk 0 0 0 0 0 0 0 0 0 0 0 0 0 0 0 0)))), box b1 26 ((.slice A1 p0.run.length c1) :: (DA16.cells p0.roles ++ (DA16.cells p0.fed)))] (by rfl) rfl (by kernel_rfl) (fun w' hw => exec_store (vs := ((.slice A2 r2.run.length c2) :: (DA16.cells r2.roles ++ (DA16.cells r2.fed)))) rfl rfl rfl rfl (by kernel_rfl) (one_of rfl) (Nat.le_of_ble_eq_true (by rfl)) rfl hw) ?_)
     refine T.nil ?_
     refine T.seq ?_
     refine T.region ?_
     refine T.pure (.int .i64 p1) (by kernel_rfl) (fun _ => by kernel_rfl) ?_
     refine T.pure (.int .i64 p2) (by kernel_rfl) (fun _ => by kernel_rfl) ?_
     refine T.pure (.pointer (some ⟨b3, 1, none⟩)) (by kernel_rfl) (fun _ => by kernel_rfl) ?_
     obtain ⟨e2, hb4, hF⟩ := Option.bind_eq_some_iff.1 hF
     obtain ⟨hi4, hi5, hi6⟩ := idx_some hb4
     refine T.look (.pointer (some ((⟨b3, 1, none⟩ : Addr).add (p1.toNat * 1)))) (by kernel_rfl) (fun w' hh => exec_arrAddr (e := 3) rfl rfl rfl (by kernel_rfl) (by kernel_rfl) hi4 hi5) ?_
     refine T.step (W1.store 0 ((.slice A2 r2.run.length c2) :: (DA16.cells (DA16.set r2.roles p1.toNat p2) ++ (DA16.cells r2.fed))) [box b3 26 ((.slice A2 r2.run.length c2) :: (DA16.cells (DA16.set r2.roles p1.toNat p2) ++ (DA16.cells r2.fed))), box b2 26 ((.slice none 0 0) :: (DA16.cells (DA16.mk 0 0 0 0 0 0 0 0 0 0 0 0 0 0 0 0) ++ (DA16.cells (DA16.mk 0 0 0 0 0 0 0 0 0 0 0 0 0 0 0 0)))), box b1 26 ((.slice A1 p0.run.length c1) :: (DA16.cells p0.roles ++ (DA16.cells p0.fed)))] (by rfl) rfl (by kernel_rfl) (fun w' hw => exec_storeArr (off := 1) r2.roles rfl rfl rfl (by kernel_rfl) (by have := hi5; have e16 : r2.roles.list.length = 16 := rfl; omega) rfl rfl (Nat.le_of_ble_eq_true (by rfl)) hw) ?_)
     refine T.nil ?_
     refine T.seq ?_
     refine T.region ?_
     refine T.look (.agg (List.toArray ((.slice A2 r2.run.length c2) :: (DA16.cells (DA16.set r2.roles p1.toNat p2) ++ (DA16.cells r2.fed))))) (by kernel_rfl) (fun w' hh => exec_loadN (cs := ((.slice A2 r2.run.length c2) :: (DA16.cells (DA16.set r2.roles p1.toNat p2) ++ (DA16.cells r2.fed)))) rfl rfl (by kernel_rfl) (by kernel_rfl) (fun j u hj => (hh.box_at (i := 0) (cs := ((.slice A2 r2.run.length c2) :: (DA16.cells (DA16.set r2.roles p1.toNat p2) ++ (DA16.cells r2.fed)))) (by rfl) 0 j).trans (seg_at (n := 33) (by rfl) hj))) ?_
     refine T.step (W1.store 1 ((.slice A2 r2.run.length c2) :: (DA16.cells (DA16.set r2.roles p1.toNat p2) ++ (DA16.cells r2.fed))) [box b3 26 ((.slice A2 r2.run.length c2) :: (DA16.cells (DA16.set r2.roles p1.toNat p2) ++ (DA16.cells r2.fed))), box b2 26 ((.slice A2 r2.run.length c2) :: (DA16.cells (DA16.set r2.roles p1.toNat p2) ++ (DA16.cells r2.fed))), box b1 26 ((.slice A1 p0.run.length c1) :: (DA16.cells p0.roles ++ (DA16.cells p0.fed)))] (by rfl) rfl (by kernel_rfl) (fun w' hw => exec_store (vs := ((.slice A2 r2.run.length c2) :: (DA16.cells (DA16.set r2.roles p1.toNat p2) ++ (DA16.cells r2.fed)))) rfl rfl rfl rfl (by kernel_rfl) (one_of rfl) (Nat.le_of_ble_eq_true (by rfl)) rfl hw) ?_)
     refine T.pure (.int .i64 0) (by kernel_rfl) (fun _ => by kernel_rfl) ?_
     refine T.nil ?_
     cases hF
     refine T.ret rfl ?_
     exact T.ret2 rfl (ResIs.cellN 1 rfl (by rfl) (fun _ => by kernel_rfl) (fun _ => by kernel_rfl)) (ResIs.tmp rfl) fun w' hh => ⟨_, rfl, hh.below, (vT2.mk (vAg.mk ⟨_, _, rfl, (SlOk.mono hs2 (View.le_trans (made_mono (View.le_refl _)) (made_fresh hh)))⟩) (show _ from rfl))⟩

end Go.Proofs.Ytiomghobbcgkdaa
